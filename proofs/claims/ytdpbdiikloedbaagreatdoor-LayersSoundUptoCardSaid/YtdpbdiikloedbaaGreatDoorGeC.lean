/- A ghost interpreter of the model's code, and that it tells the truth: part 3. It says of a function of plain data what a call of it comes to. -/
import Derived.Test.YtdpbdiikloedbaaGreatDoorGeB
set_option linter.unusedSectionVars false
namespace Go.Ge
open RowKit
section
variable {P:Program} {B:qK} {N:Nat} {γ:Gh} {σ bb:St} {a:Act} {w:World} {d:Option Nat} {cx:Ctx}
theorem I0(b c:Bool){f:TypeId}{x y:Operand}(g:P.underlying f=some .bool) :
  (gA .eql f x y (.bool b)<|.bool c).run P w=.ok (.bool<|eqB b c) w/\(gA .neq f x y (.bool b)<|.bool c).run P w=.ok (.bool<|nt<|eqB b c) w:=by
 have e:=run_equalIn_bool' (P:=P) w 9999 f b c g;constructor<;>simp only[gA,eqGuard_at_bool,binOp,Op.equal,Op.maxDepth,Sem.run_bind,Sem.run_pure,Result.andThen_ok,e]<;>rfl
theorem Re{c e:TypeId}(f:P.underlying c=some (.pointer e))(a b:Option Addr)(h:a=none\/b=none)(n:Nat) :
  (Op.equalIn (n+1) c (.pointer a)<|.pointer b).run P w=.ok (a.isNone&&b.isNone) w:=by
 cases a with
 | none=>cases b<;>simp only[Op.equalIn,Sem.run_bind,run_underlying f,Result.andThen_ok]<;>rfl
 | some a=>cases b with
   | none=>simp only[Op.equalIn,Sem.run_bind,run_underlying f,Result.andThen_ok];rfl
   | some b=>simp at h
theorem wo{c e:TypeId}{x y:Operand}(f:P.underlying c=some (.pointer e))(a b:Option Addr)(h:a=none\/b=none) :
  (gA .eql c x y (.pointer a)<|.pointer b).run P w=.ok (.bool<|a.isNone&&b.isNone) w/\(gA .neq c x y (.pointer a)<|.pointer b).run P w=.ok (.bool<|!(a.isNone&&b.isNone)) w:=by
 have e:=Re (P:=P) (w:=w) f a b h 9999;constructor<;>simp only[gA,eqGuard_at_pointer,binOp,Op.equal,Op.maxDepth,Sem.run_bind,Sem.run_pure,Result.andThen_ok,e]
theorem Xt(J:fo P cx){t:BinOp}{j:TypeId}{x y:Operand}{u v:Value}{p q r:aO}(F:cl γ σ.mem w p .val [u])(G:cl γ σ.mem w q .val [v])
  (o:(bin (find cx.T j) (cP cx.lS j) t p q).run=some r):∃z,(gA t j x y u v).run P w=.ok z w/\cl γ σ.mem w r .val [z]:=by
 unfold bin at o;split at o
 ·
  obtain⟨rfl,K⟩:=s6 F;obtain⟨rfl,X⟩:=s6 G;split at o
  .rename_i left L;have f:=fT o;rename_i k n Y m _;cases M:aY m 0
   .rw[M] at f;obtain rfl:=aI f;exact Rb K L M
   .rw[M] at f;cases f
  .rename_i L;obtain⟨s,f⟩:=aC o;rename_i k n Y m _;have Z:=wU s;subst Z;exact OB K L f
 ·
  obtain⟨rfl,K⟩:=wm F;obtain⟨rfl,X⟩:=wm G;exact OC o
 ·
  rename_i b c;obtain rfl:=xZ F;obtain rfl:=xZ G;obtain⟨s,f⟩:=aC o;have C:=J.T _ _ (iK s);have e:=I0 (P:=P) (w:=w) b c (x:=x) (y:=y) C.bool;split at f
  .rename_i A;obtain rfl:=aI f;rcases rl A with ⟨rfl,_⟩|⟨_,h⟩
   .exact⟨.bool<|eqB b c,e.1,gg _⟩
   .cases h
  .rename_i A;obtain rfl:=aI f;rcases rl A with ⟨_,h⟩|⟨rfl,_⟩
   .cases h
   .exact⟨.bool<|nt<|eqB b c,e.2,gg _⟩
  .cases f
 ·
  rename_i ta tb O t2 y1;obtain⟨s,f⟩:=aC o;simp only[dv] at s;have C:=J.T _ _ (iK s.1);split at f
  .rename_i y2 e D A;obtain⟨Q,R⟩:=Ty.kz D;subst Q;subst R;split at f
   .rename_i c E;obtain rfl:=aI f;obtain⟨g,S,rfl⟩:=dQ.1 F;obtain⟨i,U,rfl⟩:=dQ.1 G;have H:=(Bz (P:=P) (γ:=γ) (w:=w)<|.pair ta tb).1 10000 j O _ g i c C S U E (by have:=GV s.2;omega);obtain⟨fs,j1,j2,V,j4⟩:=C.pair;have I:∀t,(eqGuard t j x y (.agg g.toArray)<|.agg i.toArray).run P w=.ok () w:=λt=>run_eqGuard_agg w t j x y _ _ V;rcases rl A with ⟨rfl,rfl⟩|⟨rfl,rfl⟩
    .refine⟨.bool c,?_,gg _⟩;show(gA .eql j x y (.agg _)<|.agg _).run P w=_
     simp only[gA,Sem.run_bind,I,Result.andThen_ok];have l:(Op.equalIn 10000 j (.agg g.toArray)<|.agg i.toArray).run P w=.ok c w:=H;rw[run_eql_struct,l];rfl
    .refine⟨.bool<|nt c,?_,gg _⟩;show(gA .neq j x y (.agg _)<|.agg _).run P w=_
     simp only[gA,Sem.run_bind,I,Result.andThen_ok];have l:(Op.equalIn 10000 j (.agg g.toArray)<|.agg i.toArray).run P w=.ok c w:=H;rw[run_neq_struct,l];rfl
   .cases f
  .cases f
 ·
  rename_i nn ee O t2 y1;obtain⟨s,f⟩:=aC o;simp only[dv] at s;have C:=J.T _ _ (iK s.1);split at f
  .rename_i y2 e D A;obtain⟨Q,R⟩:=Ty.kz D;subst Q;subst R;split at f
   .rename_i c E;obtain rfl:=aI f;obtain⟨g,S,rfl⟩:=dQ.1 F;obtain⟨i,U,rfl⟩:=dQ.1 G;have H:=(Bz (P:=P) (γ:=γ) (w:=w)<|.arr nn ee).1 10000 j O _ g i c C S U E (by have:=GV s.2;omega);have V:=C.afu;have I:∀t,(eqGuard t j x y (.agg g.toArray)<|.agg i.toArray).run P w=.ok () w:=λt=>run_eqGuard_agg w t j x y _ _ V;rcases rl A with ⟨rfl,rfl⟩|⟨rfl,rfl⟩
    .refine⟨.bool c,?_,gg _⟩;show(gA .eql j x y (.agg _)<|.agg _).run P w=_
     simp only[gA,Sem.run_bind,I,Result.andThen_ok];have l:(Op.equalIn 10000 j (.agg g.toArray)<|.agg i.toArray).run P w=.ok c w:=H;rw[run_eql_struct,l];rfl
    .refine⟨.bool<|nt c,?_,gg _⟩;show(gA .neq j x y (.agg _)<|.agg _).run P w=_
     simp only[gA,Sem.run_bind,I,Result.andThen_ok];have l:(Op.equalIn 10000 j (.agg g.toArray)<|.agg i.toArray).run P w=.ok c w:=H;rw[run_neq_struct,l];rfl
   .cases f
  .cases f
 ·
  obtain rfl:u=_:=by simpa [cl] using F
  obtain rfl:v=_:=by simpa [cl] using G
  split at o
  .rename_i e hp A;obtain rfl:=aI o;obtain⟨el,W⟩:=J.lS _ hp;have q:=wo (P:=P) (w:=w) (x:=x) (y:=y) W none none (.inl rfl);rcases rl A with ⟨rfl,rfl⟩|⟨rfl,rfl⟩
   .exact⟨_,q.1,gg _⟩
   .exact⟨_,q.2,gg _⟩
  .cases o
 .cases o
theorem jP{b c:Nat}(h:live σ b c=true):∃e,σ.mem b=some e/\e.aP=c:=by
 unfold live at h;split at h
 .rename_i e f;exact⟨e,f,eT h⟩
 .cases h
theorem bk{c:Nat->Option bF}{b e:Nat}{bx:bF}(g:c b=some bx)(i:bx.aP=e){K:bF->Prop}(h:mx c b e K):K bx:=by
 obtain⟨j,f,l,k⟩:=h;rw[g] at f;obtain rfl:=aI f;exact k i
theorem T0(m:fo P cx){D:BinOp}{n:TypeId}{x y:Operand}{u v:Value}{p q r:aO}(o:cl γ σ.mem w p .val [u])(s:cl γ σ.mem w q .val [v])
  (l:(Z1 σ (find cx.T n) (cP cx.lS n) D p q).run=some r):∃z,(gA D n x y u v).run P w=.ok z w/\cl γ σ.mem w r .val [z]:=by
 unfold Z1 at l;split at l
 .rename_i b t p;obtain⟨h,c⟩:=aC l;simp only[dv] at h;obtain⟨E,i,f⟩:=jP h.1;obtain⟨j,A,_,g⟩:=bk i f o.2;obtain rfl:u=_:=by simpa using g
  obtain rfl:v=_:=by simpa [cl] using s
  obtain⟨F,k⟩:=m.lS _ h.2;have q:=wo (P:=P) (w:=w) (x:=x) (y:=y) k (some ⟨j,cG p,none⟩) none (.inr rfl);split at c
  .rename_i e C;obtain rfl:=aI c;rcases rl C with ⟨rfl,rfl⟩|⟨rfl,rfl⟩
   .exact⟨_,q.1,gg _⟩
   .exact⟨_,q.2,gg _⟩
  .cases c
 .rename_i b t p;obtain⟨h,c⟩:=aC l;simp only[dv] at h;obtain⟨E,i,f⟩:=jP h.1;obtain⟨j,A,_,g⟩:=bk i f s.2;obtain rfl:v=_:=by simpa using g
  obtain rfl:u=_:=by simpa [cl] using o
  obtain⟨F,k⟩:=m.lS _ h.2;have q:=wo (P:=P) (w:=w) (x:=x) (y:=y) k none (some ⟨j,cG p,none⟩) (.inl rfl);split at c
  .rename_i e C;obtain rfl:=aI c;rcases rl C with ⟨rfl,rfl⟩|⟨rfl,rfl⟩
   .exact⟨_,q.1,gg _⟩
   .exact⟨_,q.2,gg _⟩
  .cases c
 .exact Xt m o s l
theorem aag{e:UnOp}{u:Value}{p r:aO}(c:cl γ σ.mem w p .val [u])(b:(un e p).run=some r):∃z,(Op.unary e u).run P w=.ok z w/\cl γ σ.mem w r .val [z]:=by
 unfold un at b;split at b
 .obtain rfl:=xZ c;obtain rfl:=aI b;exact⟨_,rfl,gg _⟩
 .obtain⟨rfl,f⟩:=s6 c;obtain rfl:=aI b;exact⟨_,rfl,mkInt (ff _ _)⟩
 .obtain⟨rfl,f⟩:=s6 c;obtain rfl:=aI b;rename_i k n;refine⟨_,?_,mkInt (ff _ _)⟩;cases g:k.signed<;>simp[Op.unary,Op.intBits,fI,g]
 .cases b
theorem aah(O:bB B γ σ.mem w){b:Nat}{n:bF}(Q:σ.mem b=some n){o q:Nat}(D:γ.loc b=some (o,q)){p:List B9}{v:aO}(h:(Xm n.buf p n.val).run=some v) :
  ∃c tid m,w.heap[o]?=some (.cells c tid m)/\lT c m/\cG p+cV v<=c.size/\cl γ σ.mem w v .cells ((c.toList.drop<|cG p).take<|cV v):=by
 have f:=O.boxes b n Q;unfold cE at f;unfold Xm at h;cases j:n.buf with
 | false =>
   rw[j] at f h;obtain⟨r,t,c,tid,m,A,L,g,u,E⟩:=f;rw[D] at A;obtain⟨rfl,rfl⟩:=br (aI A);obtain⟨F,C⟩:=vw E h;exact⟨c,tid,m,L,g,by simpa using F,C⟩
 | true =>
   rw[j] at f h;obtain⟨e,l,A,L,g⟩:=f;rw[A] at h;rcases g with ⟨g,_⟩|⟨r,t,c,tid,m,g,E,R,u,U,V,W,S⟩
   .rw[D] at g;cases g
   .rw[D] at g;obtain⟨rfl,rfl⟩:=br (aI g);cases p with
    | nil=>cases h
    | cons s p =>
      cases s with
      | fJ k off=>cases h
      | idx i size =>
        obtain⟨G,H⟩:=aC h;have y:=eT G;obtain⟨x,T,I⟩:=b4 H;obtain⟨X,z⟩:=sv T;have M:=S _ x z;have J:=M.length;have hi:i.toNat<l.length:=(fq.1 z).1;have K:(i.toNat+1)*e.size<=q*e.size:=fO _ (by omega);rw[zm] at K;obtain⟨F,C⟩:=vw (v:=.data e x) (show cl γ σ.mem w (.data e x) .cells _ from M) I;rw[J] at F;refine⟨c,tid,m,E,R.th,?_,?_⟩
        .simp only[cG,y];omega
        .rw[V6,Bs,vm,pb (by omega)] at C;simp only[cG,y];exact C
theorem xe{t:Ty}{i:TypeId}(n:Den P t i){b e:Nat}{x:t.den}{k:List Value}(l:bI w γ.I t x k)(f:(loadCells ⟨b,e,none⟩ k.length).run P w=.ok k.toArray w)
  (g:∀(j:Nat) v,k[j]?=some v->w.cell? ⟨b,e+j,none⟩=some v):(loadVar i ⟨b,e,none⟩).run P w=.ok (bZ t k) w:=by
 unfold loadVar;rw[Sem.run_bind,n.agg w,Result.andThen_ok];have m:=l.length;cases h:t.isAgg with
 | true =>
   simp only[ky,Sem.run_bind,n.sizeOf w,Result.andThen_ok,<-m,f,Sem.run_pure,bZ,h,eC]
 | false =>
   have o:=sx h;rw[o] at m;obtain⟨c,rfl⟩:=V0.1 m;have:=g 0 c rfl;simp only[wS] at this;simp[bZ,h,this]
theorem I3:∀{u:Ty} {v:aO},Q2 u v=true->cV v=u.size:=by
 intro u;induction u with
 | pair a b f e =>
   intro v h;cases v with
   | data t x=>obtain rfl:=Ty.eq_of_beq (show Ty.beq t (.pair a b)=true from h);rfl
   | mix p q =>
     obtain⟨c,g⟩:=Bool.and_eq_true_iff.1 (show(Xn a p&&Q2 b q)=true from h);have i:cV p=a.size:=by
      unfold Xn at c;split at c
      .rfl
      .rename_i t u x _;obtain rfl:=Ty.eq_of_beq c;rfl
      .cases c
     show cV p+cV q=a.size+b.size
     rw[i,e g]
   | _=>cases h
 | _ =>
   intro v h;cases v with
   | data t x=>obtain rfl:=Ty.eq_of_beq h;rfl
   | _=>cases h
theorem Xu{u:Ty}{v:aO}(b:Xn u v=true):cV v=u.size:=by
 unfold Xn at b;split at b
 .rfl
 .rename_i t u x _;obtain rfl:=Ty.eq_of_beq b;rfl
 .cases b
theorem Rf(s:fo P cx){t:TypeId}{x:Operand}(h:cW B N γ σ a w)(z:(kS cx d t (cD σ x) σ).run=some bb) :
  ∃u m I,bb=σ.ba d u/\a.eval x=.pointer (some I)/\(loadVar t I).run P w=.ok m w/\cl γ σ.mem w u .val [m]:=by
 have hv:=h.cD x;unfold kS at z;split at z
 .rename_i u y M;rw[M] at hv;obtain⟨L,A⟩:=aC z;obtain rfl:=aI A;have G:=s.T _ _ (iK L);obtain⟨J,off,cs,H,h2,h3⟩:=hv;obtain H:a.eval x=_:=by simpa using H
  have O:=xe (P:=P) G h2 (EJ h3) (λj v C=>(h3 j v C).1);exact⟨_,_,_,rfl,H,O,cs,h2,rfl⟩
 .rename_i b aP p M;rw[M] at hv;split at z
  .rename_i bx L;obtain⟨n,A⟩:=aC z;have n:=eT n;obtain⟨v,hn,Q⟩:=bind_some A;obtain⟨g,R⟩:=aC Q;obtain rfl:=aI R;obtain⟨J,cap,O,l⟩:=bk L n hv.2;obtain l:a.eval x=_:=by simpa using l
   obtain⟨K,tid,fr,g1,g2,g3,D⟩:=aah h.ok L O hn;have E:=Bg (P:=P) g1 g3;have F:=D.length;have i:∀(j:Nat) S,((K.toList.drop<|cG p).take<|cV v)[j]?=some S->w.cell? ⟨J,cG p+j,none⟩=some S:=λj S C=>by
    rw[cell_of_heap g1];rw[fi] at C;split at C
    .rw[mn] at C;simpa using C
    .cases C
   have single:∀(q:(isAgg t).run P w=.ok false w) (H:cV v=1) (o:∀c,cl γ σ.mem w v .cells [c]->cl γ σ.mem w v .val [c]),
     ∃u m I,σ.ba d v=σ.ba d u/\a.eval x=.pointer (some I)/\(loadVar t I).run P w=.ok m w/\cl γ σ.mem w u .val [m]:=by
    intro q H o;rw[H] at F D i;obtain⟨c,U⟩:=V0.1 F;rw[U] at D i;have:=i 0 c rfl;simp only[wS] at this;refine⟨_,c,_,rfl,l,?_,o c D⟩;simp[loadVar,q,this]
   cases v with
   | mix V q' =>
     rw[show wj cx t (.mix V q')=false from rfl,yN] at g;simp only[xR] at g;split at g
     .rename_i u W;have G:=s.T _ _ W;have X:=I3 g;have Y:Ty.isAgg u=true:=by
       cases u with
       | pair a b=>rfl
       | _=>cases g
      refine⟨_,.agg ((K.toList.drop<|cG p).take<|cV<|.mix V q').toArray,_,rfl,l,?_,?_⟩
      .rw[X] at E⊢;simp only[loadVar,Sem.run_bind,G.agg w,Y,Result.andThen_ok,ky,G.sizeOf w,E,Sem.run_pure]
      .obtain⟨c1,c2,e1,e2,e3⟩:=D;exact⟨c1,c2,by rw[e1],e2,e3⟩
     .cases g
   | data u y =>
     rw[show xR cx t (.data u y)=false from rfl,QV] at g;have G:=s.T _ _ (iK g);have Z:=xe (P:=P) G D (by rw[F];exact E) i;exact⟨_,_,_,rfl,l,Z,_,D,rfl⟩
   | whole b' r =>
     rw[show xR cx t (.whole b' r)=false from rfl,QV] at g;simp only[wj] at g;split at g
     .rename_i e W;exact single (by have:=(s.T _ _ W).agg w;exact this) rfl (λc k=>k)
     .cases g
   | ptr b' r V=>exact single ((s.rh _<|by simpa [xR,wj] using g).1 w) rfl (λc k=>k)
   | rf=>exact single ((s.rh _<|by simpa [xR,wj] using g).1 w) rfl (λc k=>k)
   | fn f afp=>exact single ((s.rh _<|by simpa [xR,wj] using g).1 w) rfl (λc k=>k)
   | _=>cases g
  .cases z
 .cases z
theorem I4(c:fo P cx){b:TypeId}{x:Operand}(h:cW B N γ σ a w)(e:∀k,d=some k->k<N)(f:(kS cx d b (cD σ x) σ).run=some bb) :
  nZ P B N γ σ a w d (Instr.loadAt b<|a.eval x) bb:=by
 obtain⟨u,g,m,rfl,i,j,l⟩:=Rf c h f;refine bN h e ?_ l;rw[i];simp only[Instr.loadAt,Instr.sureAddr,Sem.run_bind,Sem.run_pure,Result.andThen_ok,j]
end
end Go.Ge
namespace Go.Ge
open RowKit
section
variable {P:Program} {B:qK} {N:Nat} {γ:Gh} {σ bb:St} {a:Act} {w:World} {d:Option Nat} {cx:Ctx}
theorem F7{s:TypeId}{e:Array Field}{k:Nat}{f:Field}{u:Ty}(h:P.underlying s=some (.struct e))(i:e.toList[k]?=some f)(j:Den P u f.type)(m:0<u.size)(b c:Nat) :
  (Instr.fieldAt s (.pointer<|some ⟨b,c,none⟩) k).run P w=.ok (.pointer<|some ⟨b,c+f.offset,none⟩) w:=by
 have g:e[k]?=some f:=by simpa using i
 have l:¬(u.size=0):=by omega
 simp only[Instr.fieldAt,Sem.run_bind,run_underlying h,Result.andThen_ok,g,Instr.sureAddr,Sem.run_pure,fieldPlace,j.sizeOf w,aM l,addr_add]
theorem OD{s:TypeId}{e:Array Field}{k:Nat}{f:Field}{i:TypeInfo}(j:P.underlying s=some (.struct e))(l:e.toList[k]?=some f)(m:P.info? f.type=some i)(o:0<i.size)(b c:Nat) :
  (Instr.fieldAt s (.pointer<|some ⟨b,c,none⟩) k).run P w=.ok (.pointer<|some ⟨b,c+f.offset,none⟩) w:=by
 have g:e[k]?=some f:=by simpa using l
 have n:¬(i.size=0):=by omega
 have h:(Go.sizeOf f.type).run P w=.ok i.size w:=by simp[Go.sizeOf,typeInfo,m]
 simp only[Instr.fieldAt,Sem.run_bind,run_underlying j,Result.andThen_ok,g,Instr.sureAddr,Sem.run_pure,fieldPlace,h,aM n,addr_add]
theorem Ce{t:Ty}{s:TypeId}(g:Den P t s){k:Nat}{u:Ty}{o:Nat}(e:uv t k=some u)(h:jr t k=some o) :
  ∃(c:Array Field) (f:Field),P.underlying s=some (.struct c)/\c.toList[k]?=some f/\f.offset=o/\Den P u f.type/\0<u.size:=by
 cases t with
 | pair a b =>
   obtain⟨c,i,j,_⟩:=g.pair;obtain⟨f,l,p,m,n⟩:=j.at e h;exact⟨c,f,i,l,by omega,m,n⟩
 | _=>cases k<;>cases e
theorem Bh(H:fo P cx){s:TypeId}{x:Operand}{k:Nat}(h:cW B N γ σ a w)(I:∀k,d=some k->k<N)(r:(eQ cx d s (cD σ x) k σ).run=some bb) :
  nZ P B N γ σ a w d (Instr.fieldAt s (a.eval x) k) bb:=by
 have hv:=h.cD x;unfold eQ at r;split at r
 .rename_i u y J;rw[J] at hv;obtain⟨K,c⟩:=aC r;have S:=H.T _ _ (iK K);split at c
  .rename_i o t z U;obtain rfl:=aI c;obtain⟨g,l,V,L,W,X⟩:=hv;obtain L:a.eval x=_:=by simpa using L
   obtain⟨t',z',Y,Z,e3,e4,e5⟩:=Cd (w:=w) W (show pc u y k=some (o,.data t z) from U);cases Y;obtain⟨Q,f,A,C,D,E,F⟩:=Ce S Z e3;refine bN h I (by rw[L];exact F7 A C E F g l) ⟨g,l+f.offset,(V.drop o).take t.size,rfl,e5,λj v G=>?_⟩;rw[fi] at G;split at G
   .rw[mn] at G;have:=X _ v G;rw[D,xP];exact this
   .cases G
  .cases c
 .rename_i b aP p J;rw[J] at hv;obtain⟨K,c⟩:=aC r;obtain⟨R,m,n⟩:=jP K;split at c
  .rename_i t hT;split at c
   .rename_i l u M hu;obtain rfl:=aI c;obtain⟨g,q,O,e⟩:=bk m n hv.2;obtain e:a.eval x=_:=by simpa using e
    obtain⟨Q,f,A,C,D,E,F⟩:=Ce (H.T _ _ hT) hu M;refine bN h I (by rw[e];exact F7 A C E F g (cG p)) ⟨⟨_,rfl,rfl⟩,R,m,by omega,λ_=>⟨g,q,O,?_⟩⟩;rw[zv,D];simp[cG]
   .cases c
  .split at c
   .rename_i Q hO;split at c
    .rename_i l M;obtain rfl:=aI c;obtain⟨g,q,O,e⟩:=bk m n hv.2;obtain e:a.eval x=_:=by simpa using e
     obtain⟨gs,f,i,A,C,D,E,F⟩:=acr (H.sZ _ _ hO) M;refine bN h I (by rw[e];exact OD A C E F g (cG p)) ⟨⟨_,rfl,rfl⟩,R,m,by omega,λ_=>⟨g,q,O,?_⟩⟩;rw[zv,D];simp[cG]
    .cases c
   .cases c
 .cases r
theorem Rg(l:fo P cx){g:TypeId}{k o:Nat}{u:Ty}{y:u.den}{v:aO}{b:Value}(m:find cx.T g=some u)(n:cl γ σ.mem w (.data u y) .val [b])(p:mv (.data u y) k=some (o,v)) :
  ∃z,(Instr.field g b k).run P w=.ok z w/\cl γ σ.mem w v .val [z]:=by
 have q:=l.T _ _ m;obtain⟨cs,r,rfl⟩:=dQ.1 n;obtain⟨h,G,rfl,i,s,t,x⟩:=Cd (w:=w) r p;obtain⟨A,f,C,D,j,E,H⟩:=Ce q i s;have c:u.isAgg=true:=by cases u<;>first|rfl|(cases k<;>cases i)
 refine⟨bZ h<|(cs.drop o).take h.size,?_,_,x,rfl⟩;have e:A[k]?=some f:=by simpa using D
 have F:=AB (P:=P) (w:=w) E (cs:=cs.toArray) (off:=f.offset) (by rw[j];simpa using t) sx;simp only[bZ,c,eC,Instr.field,Sem.run_bind,run_underlying C,Result.andThen_ok,e,asAgg,Sem.run_pure,F];rw[j]
theorem my{t b:TypeId}{h:Nat}(j:P.underlying t=some (.slice b))(l:(Go.sizeOf b).run P w=.ok h w)(c e f g:Nat)(k:IntKind){i:Int}(m:0<=i)(n:i<f) :
  (Instr.indexAt t (.slice (some ⟨c,e,none⟩) f g)<|.int k i).run P w=.ok (.pointer<|some ⟨c,e+i.toNat*h,none⟩) w:=by
 simp only[Instr.indexAt,asIntOf,Sem.run_bind,Sem.run_pure,Result.andThen_ok,run_underlying j,IA,m,n,ky,l,addr_add]
theorem yS{t b:TypeId}{f n:Nat}(g:P.underlying t=some (.array n b))(h:(Go.sizeOf b).run P w=.ok f w)(c e:Nat)(k:IntKind){i:Int}(j:0<=i)(l:i<n) :
  (Instr.indexAt t (.pointer<|some ⟨c,e,none⟩)<|.int k i).run P w=.ok (.pointer<|some ⟨c,e+i.toNat*f,none⟩) w:=by
 simp only[Instr.indexAt,asIntOf,Sem.run_bind,Sem.run_pure,Result.andThen_ok,run_underlying g,Instr.sureAddr,IA,j,l,ky,h,addr_add]
theorem zw{i n:Int}(h:within i n=true):0<=i/\i<n:=by
 simp only[within,dv,kQ] at h;exact h
theorem iX{i j n:Int}(h:inside i j n=true):0<=i/\i<=j/\j<=n:=by
 simp only[inside,dv,kQ] at h;exact⟨h.1.1,h.1.2,h.2⟩
theorem C9{b i:Nat}{e:Ty}{n:Int}(h:xS σ b i=some (e,n)):∃(j:bF) (k:Nat),σ.mem b=some j/\j.aP=i/\j.row=some (e,k)/\n=k:=by
 unfold xS at h;split at h
 .rename_i j m;cases c:Nat.beq j.aP i with
  | false=>rw[c] at h;cases h
  | true =>
    rw[c] at h;simp only[eC] at h;split at h
    .rename_i o l f g;obtain⟨rfl,rfl⟩:=br (aI h);exact⟨j,_,m,eT c,by rw[bF.row,f,g],rfl⟩
    .rename_i p o l f g;obtain⟨rfl,rfl⟩:=br (aI h);exact⟨j,_,m,eT c,by rw[bF.row,f,g],rfl⟩
    .cases h
 .cases h
theorem bF.dk{bx:bF}{e:Ty}{l:List e.den}(b:bx.buf=true)(c:bx.val=.data (.slice e) l):bx.row=some (e,l.length):=by rw[bF.row,b,c]
theorem bF.p4{bx:bF}{e:Ty}{n:Nat}{l:(Ty.arr n e).den}(b:bx.buf=false)(c:bx.val=.data (.arr n e) l):bx.row=some (e,n):=by rw[bF.row,b,c]
theorem x4(c:fo P cx){t e:Nat}(h:M4 cx t=some e):P.underlying t=some (.slice e)/\cP cx.rh e=true:=by
 unfold M4 at h;split at h
 .cases h
 .split at h
  .rename_i u f;cases b:cP cx.rh u with
   | false=>rw[b] at h;cases h
   | true =>
     rw[b] at h;obtain rfl:=aI h;exact⟨c.Wd _ _ f,b⟩
  .cases h
theorem T1{b c:Nat}{i:Int}:∀{m k:Nat},(IE d b c σ i m k).run=some bb->∃j:Nat,k<=j/\j<k+m/\i=j/\bb=σ.ba d (.ptr b c [.fJ j j]):=by
 intro m;induction m with
 | zero=>intro k f;cases f
 | succ m g =>
   intro k f;have e:=fT f;cases hi:aX i k with
   | true =>
     rw[hi] at e;obtain rfl:=aI e;exact⟨k,cg _,by omega,by simpa [aX] using hi,rfl⟩
   | false =>
     rw[hi] at e;obtain⟨j,n,o,h,l⟩:=g e;exact⟨j,by omega,by omega,h,l⟩
theorem F8{q:List B9}(h:HL q=true):cG q=0:=by
 unfold HL at h;split at h
 .simp[cG,eT h]
 .cases h
theorem tw(U:fo P cx){ty:TypeId}{x:Operand}{V:IntKind}{i:Int}(h:cW B N γ σ a w)(Z:∀k,d=some k->k<N)(C:(ek cx d ty (cD σ x) i σ).run=some bb) :
  nZ P B N γ σ a w d (Instr.indexAt ty (a.eval x)<|.int V i) bb:=by
 have hv:=h.cD x;unfold ek at C;split at C
 .rename_i u e l K G;rw[G] at hv;obtain⟨D,o⟩:=aC C;obtain rfl:=Ty.eq_of_beq D;obtain⟨y,hy,z⟩:=b4 o;obtain rfl:=aI z;obtain⟨L,H⟩:=sv hy;obtain⟨M,I,J,k3,k4⟩:=(U.T _ _ K).slice;obtain⟨cs,E,t⟩:=dQ.1 hv;have hi:i.toNat<List.length (α:=u.den) l:=(fq.1 H).1;rcases E with ⟨_,E⟩|⟨f,F,r,E,h2,h3,h4⟩
  .exfalso;have:List.length (α:=u.den) l=0:=by rw[show l=([]:List u.den) from E];rfl
   omega
  .rw[E] at t;have W:a.eval x=.slice (some ⟨f,F,none⟩) (List.length (α:=u.den) l) r:=t;obtain⟨es,g1,R,O⟩:=h4 _ y H;refine bN h Z (by rw[W];exact my I (J.sizeOf w) f F _ r V L (by omega)) ⟨f,F+i.toNat*u.size,es,rfl,O,λj v Q=>?_⟩;exact R j v Q
 .rename_i m u n e l K G;rw[G] at hv;obtain⟨D,o⟩:=aC C;simp only[dv] at D;obtain rfl:=Ty.eq_of_beq D.1;obtain rfl:=eT D.2;obtain⟨y,hy,z⟩:=b4 o;obtain rfl:=aI z;obtain⟨L,H⟩:=sv hy;obtain⟨M,I,J,k3⟩:=(U.T _ _ K).arr;obtain⟨f,F,cs,E,h2,h3⟩:=hv;obtain E:a.eval x=_:=by simpa using E
  have hi:i.toNat<m:=by have:=(fq.1 H).1;have:=h2.1;omega
  have hr4:=h2.2.2 _ y H;refine bN h Z (by rw[E];exact yS I (J.sizeOf w) f F V L (by omega)) ⟨f,F+i.toNat*u.size,_,rfl,hr4,λj v Q=>?_⟩;rw[fi] at Q;split at Q
  .rw[mn] at Q;have:=h3 _ v Q;rw[xP];exact this
  .cases Q
 .rename_i u b X K G;rw[G] at hv;split at C
  .rename_i e n he;obtain⟨D,o⟩:=aC C;obtain rfl:=Ty.eq_of_beq D;obtain⟨hw,z⟩:=cv o;obtain rfl:=aI z;obtain⟨L,E⟩:=zw hw;obtain⟨S,k,g,s,A,rfl⟩:=C9 he;obtain⟨M,I,J,k3,k4⟩:=(U.T _ _ K).slice;obtain⟨e',n',g1,R,O⟩:=bk g s hv.2;rw[A] at R;obtain⟨rfl,rfl⟩:=br (aI R);rcases O with ⟨O,g4⟩|⟨f,r,O,g4⟩
   .exfalso;have hat:=h.ok.boxes b S g;rw[cE,g1] at hat;obtain⟨e2,l,j1,j2,j3⟩:=hat;rcases j3 with ⟨_,j4⟩|⟨_,_,_,_,_,j3,_⟩
    .rw[bF.dk g1 j1,j4] at A;have:0=k:=by
      have:=(br<|aI A).2;simpa using this
     omega
    .rw[O] at j3;cases j3
   .obtain g4:a.eval x=_:=by simpa using g4
    refine bN h Z (by rw[g4];exact my I (J.sizeOf w) f 0 _ r V L E) ⟨⟨_,rfl,rfl⟩,S,g,by omega,λ_=>⟨f,r,O,by simp[cG]⟩⟩
  .cases C
 .rename_i u b X lo n K G;rw[G] at hv;split at C
  .rename_i e n2 he;obtain⟨D,o⟩:=aC C;obtain rfl:=Ty.eq_of_beq D;obtain⟨hw,z⟩:=cv o;obtain rfl:=aI z;obtain⟨L,E⟩:=zw hw;obtain⟨S,k,g,s,A,rfl⟩:=C9 he;obtain⟨M,I,J,k3,k4⟩:=(U.T _ _ K).slice;obtain⟨e',n',R,O,g4,g5,base,r,g6,Y,g8,gF,g9⟩:=bk g s hv.2;rw[A] at R;obtain⟨rfl,rfl⟩:=br (aI R);rcases g9 with g9|⟨f,c,g9,g10⟩
   .omega
   .obtain g6:a.eval x=_:=by simpa using g6
    refine bN h Z (by rw[g6,g10];exact my I (J.sizeOf w) f _ _ r V L (by omega)) ⟨⟨_,rfl,rfl⟩,S,g,by omega,λ_=>⟨f,c,g9,?_⟩⟩;have:(plus lo i).toNat=lo.toNat+i.toNat:=by simp only[plus];omega
    simp only[cG,this,gx,wS]
  .cases C
 .rename_i m u b X p K G;rw[G] at hv;obtain⟨D,o⟩:=aC C;obtain⟨S,g,s⟩:=jP D;obtain⟨hw,z⟩:=cv o;obtain rfl:=aI z;obtain⟨L,E⟩:=zw hw;obtain⟨M,I,J,k3⟩:=(U.T _ _ K).arr;obtain⟨f,r,hl,t⟩:=bk g s hv.2;obtain t:a.eval x=_:=by simpa using t
  refine bN h Z (by rw[t];exact yS I (J.sizeOf w) f _ V L E) ⟨⟨_,rfl,rfl⟩,S,g,by omega,λ_=>⟨f,r,hl,?_⟩⟩;rw[zv];simp[cG]
 .rename_i b X q e0 k0 lo n K G;rw[G] at hv;split at C
  .rename_i e he;obtain⟨D,o⟩:=aC C;simp only[dv,kQ] at D;obtain⟨⟨hq,rfl⟩,hl⟩:=D;obtain⟨S,g,s⟩:=jP hl;obtain⟨I,J⟩:=x4 U he;obtain⟨j,_,Q,rfl,rfl⟩:=T1 o;obtain⟨_,f,c,g1,R,O,g4,base,r,g5,g6,Y⟩:=bk g s hv.2;obtain g5:a.eval x=_:=by simpa using g5
   rcases Y with Y|Y
   .subst Y;simp at Q
   .rw[F8 hq] at Y;have hj':((j:Nat):Int)<(n.toNat:Int):=by omega
    refine bN h Z (by rw[g5,Y];exact my I ((U.rh _ J).2.1 w) f _ _ r V (by omega) hj') ⟨⟨_,rfl,rfl⟩,S,g,by omega,λ_=>⟨f,c,g1,?_⟩⟩;simp[cG]
  .cases C
 .cases C
theorem GZ(r:fo P cx){s:TypeId}{x:Operand}{t:IntKind}{i:Int}(h:cW B N γ σ a w)(A:∀k,d=some k->k<N)(p:(lv cx d s (cD σ x) i σ).run=some bb) :
  nZ P B N γ σ a w d (Instr.indexAt s (a.eval x)<|.int t i) bb:=by
 have hv:=h.cD x;unfold lv at p;split at p
 .rename_i b F q Q R S n e G H;rw[G] at hv;obtain⟨C,f⟩:=aC p;simp only[dv,kQ] at C;obtain⟨⟨I,rfl⟩,J⟩:=C;obtain⟨K,l,m⟩:=jP J;obtain⟨L,M⟩:=x4 r H;split at f
  .rename_i j;obtain⟨D,u⟩:=aC f;obtain rfl:=aI u;have D:=gM D;obtain⟨_,o,c,O,T,U,V,E,v,y,W,g⟩:=bk l m hv.2;obtain y:a.eval x=_:=by simpa using y
   rcases g with g|g
   .subst g;omega
   .rw[F8 I] at g;have z:((j:Nat):Int)<(n.toNat:Int):=by omega
    show nZ P B N γ σ a w d (Instr.indexAt s (a.eval x)<|.int t (j:Int)) _
    refine bN h A (by rw[y,g];exact my L ((r.rh _ M).2.1 w) o _ _ v t (by omega) z) ⟨⟨_,rfl,rfl⟩,K,l,by omega,λ_=>⟨o,c,O,?_⟩⟩;simp[cG]
  .cases f
 .exact tw r h A p
theorem u8_in(b:UInt8):IntKind.u8.min<=u8 b/\u8 b<=IntKind.u8.max:=by
 have:=b.toNat_lt;have c:IntKind.u8.min=0:=by decide
 have e:IntKind.u8.max=255:=by decide
 simp only[u8,c,e];omega
theorem G0(G:fo P cx){o:TypeId}{x:Operand}{H:IntKind}{i:Int}(h:cW B N γ σ a w)(I:∀k,d=some k->k<N)(j:(lz cx d o (cD σ x) i σ).run=some bb) :
  nZ P B N γ σ a w d (Instr.index o (a.eval x)<|.int H i) bb:=by
 have hv:=h.cD x;unfold lz at j;split at j
 .rename_i s p q;rw[q] at hv;obtain⟨b,r,g⟩:=b4 j;obtain rfl:=aI g;obtain⟨t,f⟩:=sv r;obtain⟨c,W⟩:=wm hv;refine bN h I (x:=.int .u8 (u8 b)) ?_ (mkInt<|u8_in b);rw[c];have K:=(G.T _ _ p).str;have L:(⟨List.toArray<|show aq from s⟩:ByteArray)[i.toNat]?=some b:=by
   have:=(fq.1 f);obtain⟨M,O⟩:=this;have v:i.toNat<(⟨List.toArray<|show aq from s⟩:ByteArray).size:=M;rw[getElem?_pos (⟨List.toArray<|show aq from s⟩:ByteArray) i.toNat v];exact congrArg some O
  simp only[Instr.index,asIntOf,Sem.run_bind,Sem.run_pure,Result.andThen_ok,run_underlying K,t,ky,L];rfl
 .rename_i m u n e l p q;rw[q] at hv;obtain⟨z,A⟩:=aC j;simp only[dv] at z;obtain rfl:=Ty.eq_of_beq z.1;obtain rfl:=eT z.2;obtain⟨y,r,g⟩:=b4 A;obtain rfl:=aI g;obtain⟨t,f⟩:=sv r;obtain⟨Q,R,J,X⟩:=(G.T _ _ p).arr;obtain⟨C,D,c⟩:=dQ.1 hv;have hi:i.toNat<m:=by have:=(fq.1 f).1;have:=D.1;omega
  have E:=D.2.2 _ y f;have S:(i.toNat+1)*u.size<=m*u.size:=fO _ hi;rw[zm] at S;have U:=D.2.1;have V:=AB (P:=P) (w:=w) J (cs:=C.toArray) (off:=i.toNat*u.size) (by simp;omega) sx;refine bN h I (x:=bZ u ((C.drop<|i.toNat*u.size).take u.size)) ?_ ⟨_,E,rfl⟩;have F:i<(m:Int):=by omega
  rw[c];show(Instr.index o (.agg C.toArray)<|.int H i).run P w=_
  simp only[Instr.index,asIntOf,Sem.run_bind,Sem.run_pure,Result.andThen_ok,run_underlying R,t,F,IA,ky,J.sizeOf w,V]
 .cases j
theorem sb0(b:Bool)(c e:Nat):(Instr.sliceBounds b c e none none none).run P w=.ok (0,c,e) w:=by simp[Instr.sliceBounds]
theorem sbh(b:Bool)(e c:Nat)(k:IntKind){y:Int}(f:0<=y)(g:y<=c):(Instr.sliceBounds b e c none (some<|.int k y) none).run P w=.ok (0,y.toNat,c) w:=by
 have h:(0:Int)<=y/\y<=(c:Int):=⟨f,g⟩;simp only[Instr.sliceBounds,Instr.sliceBound,asIntOf,Sem.run_bind,Sem.run_pure,Result.andThen_ok,h,IA,ky]
theorem sbl(b:Bool)(c e:Nat)(k:IntKind){y:Int}(f:0<=y)(g:y<=c):(Instr.sliceBounds b c e (some<|.int k y) none none).run P w=.ok (y.toNat,c,e) w:=by
 have h:(0:Int)<=y/\y<=(c:Int):=⟨f,g⟩;simp only[Instr.sliceBounds,Instr.sliceBound,asIntOf,Sem.run_bind,Sem.run_pure,Result.andThen_ok,h,IA,ky]
theorem ahg(b:Bool)(f c:Nat)(k g:IntKind){y e:Int}(h:0<=y)(m:y<=e)(i:e<=c):(Instr.sliceBounds b f c (some<|.int k y) (some<|.int g e) none).run P w=.ok (y.toNat,e.toNat,c) w:=by
 have j:(0:Int)<=e/\e<=(c:Int):=⟨by omega,i⟩;have l:(0:Int)<=y/\y<=((e.toNat:Nat):Int):=⟨h,by omega⟩;simp only[Instr.sliceBounds,Instr.sliceBound,asIntOf,Sem.run_bind,Sem.run_pure,Result.andThen_ok,j,IA,ky];simp only[l,IA,ky,Sem.run_pure,Result.andThen_ok]
theorem pd{s r:Option Operand}{n:Int}{i j:Int}(h:cW B N γ σ a w)(g:bounds σ n s r=some (i,j))(b:Bool)(c f:Nat)(u:n=c)(A:c<=f)(v:0<=i)(x:i<=j)(F:j<=n) :
  (Instr.sliceBounds b c f (s.map a.eval) (r.map a.eval) none).run P w=.ok (i.toNat,j.toNat,f) w:=by
 have l:∀(o:Operand) k (m:Int),cD σ o=.data (.int k) m->a.eval o=.int k m:=λo k m e=>by
  have:=h.cD o;rw[e] at this;exact(s6 this).1
 unfold bounds at g;cases s with
 | none =>
   cases r with
   | none =>
     obtain⟨rfl,rfl⟩:=br (aI g);have:=sb0 (P:=P) (w:=w) b c f;rw[u];simpa using this
   | some o =>
     simp only at g;split at g
     .rename_i k y q;obtain⟨rfl,p⟩:=br (aI g);have e:=l o k _ q;rw[show y=j from p] at e;simp only[Ex,Option.map_none,e];exact sbh b c f k x (by omega)
     .cases g
 | some o =>
   cases r with
   | none =>
     simp only at g;split at g
     .rename_i k y q;obtain⟨p,rfl⟩:=br (aI g);have e:=l o k _ q;rw[show y=i from p] at e;simp only[Ex,Option.map_none,e];have:=sbl (P:=P) (w:=w) b c f k v (by omega);rw[u];simpa using this
     .cases g
   | some o2 =>
     simp only at g;split at g
     .rename_i k y z C q t;obtain⟨D,E⟩:=br (aI g);have e:=l o k _ q;have p:=l o2 z _ t;rw[show y=i from D] at e;rw[show C=j from E] at p;simp only[Ex,e,p];exact ahg b c f k z v x (by omega)
     .cases g
theorem Rh(s:aq){i j:Int}(b:0<=i)(c:i<=j):(⟨s.toArray⟩:ByteArray).extract i.toNat j.toNat=⟨(sub s i<|minus j i).toArray⟩:=by
 have:(minus j i).toNat=j.toNat-i.toNat:=by simp only[minus];omega
 apply ByteArray.ext;rw[ByteArray.data_extract];apply QZ;simp[sub,this,List.extract_eq_take_drop]
theorem T2{α:Type}(s:List α)(i n:Int):(sub s i n).length<=s.length:=by
 simp only[sub,fB,kx];omega
theorem aai{I:Nat->Nat->Prop}{e:Ty}{l:List e.den}{c f g i j:Nat}(p:∀(k:Nat) (x:e.den),l[k]?=some x->∃m:List Value,m.length=e.size /\
   (∀(q:Nat) v,m[q]?=some v->w.cell? ⟨c,f+k*e.size+q,none⟩=some v/\I c (f+k*e.size+q))/\bI w I e x m) (z:i<=j) (A:j<=l.length) (C:l.length<=g) (D:g<=maxLen) (h:Option Addr)
  (r:h=some ⟨c,f+i*e.size,none⟩\/(i=g/\h=some ⟨c,f,none⟩)) :
  bI w I (.slice e) ((l.drop i).take<|j-i) [.slice h (j-i)<|g-i]:=by
 have hlen:((l.drop i).take<|j-i).length=j-i:=by simp;omega
 rcases r with rfl|⟨rfl,rfl⟩
 .refine .inr ⟨c,f+i*e.size,g-i,?_,?_,by omega,λk x n=>?_⟩
  .show [Value.slice _ (j-i) _]=[Value.slice _ (List.length (α:=e.den)<|(l.drop i).take<|j-i) _]
   rw[hlen]
  .show List.length (α:=e.den) ((l.drop i).take<|j-i)<=_
   rw[hlen];omega
  .have b:((l.drop i).take<|j-i)[k]?=some x:=n;rw[fi] at b;split at b
   .rw[mn] at b;obtain⟨m,s,t,u⟩:=p _ x b;refine⟨m,s,λq v y=>?_,u⟩;have:=t q v y;rw[gx,<-xP] at this;exact this
   .cases b
 .have o:j=i:=by omega
  subst o;refine .inr ⟨c,f,0,by simp,by simp,by omega,λk x n=>?_⟩;have b:((l.drop j).take<|j-j)[k]?=some x:=n;simp at b
theorem sub_eq{b:Type}(l:List b){i j:Int}(c:0<=i)(e:i<=j):sub l i (minus j i)=(l.drop i.toNat).take (j.toNat-i.toNat):=by
 have:(minus j i).toNat=j.toNat-i.toNat:=by simp only[minus];omega
 rw[sub,this]
theorem sub_zero{α:Type}(l:List α):sub l 0 (minus 0 0)=[]:=by simp[sub,minus]
theorem Xv{I:Nat->Nat->Prop}{e:Ty}{l:List e.den}{c f g:Nat}{i j:Int}(m:∀(k:Nat) (x:e.den),l[k]?=some x->∃h:List Value,h.length=e.size /\
   (∀(q:Nat) v,h[q]?=some v->w.cell? ⟨c,f+k*e.size+q,none⟩=some v/\I c (f+k*e.size+q))/\bI w I e x h) (n:0<=i) (o:i<=j) (t:j<=l.length) (p:l.length<=g) (r:g<=maxLen) (b:Option Addr)
  (s:b=some ⟨c,f+i.toNat*e.size,none⟩\/(i.toNat=g/\b=some ⟨c,f,none⟩)) :
  bI w I (.slice e) (sub l i<|minus j i) [.slice b (j.toNat-i.toNat)<|g-i.toNat]:=by
 rw[sub_eq l n o];exact aai (w:=w) m (by omega) (by omega) p r b s
theorem uC.sub{b:Option Addr}{c:Nat}(h:uC b c)(i s:Nat):uC (if c=i then b else b.map (·.add s)) (c-i):=by
 rcases h with rfl|⟨e,f,rfl⟩
 .exact .inl (by omega)
 .refine .inr ?_;split
  .exact⟨e,f,rfl⟩
  .exact⟨e,f+s,by rw[Ex,addr_add]⟩
theorem C3.sub{l:bF}{b:Nat}{g i:Int}{c:Option Addr}{f:Nat}(h:C3 γ l b g c f)(m:0<=g)(q:0<=i)(s:Nat) :
  C3 γ l b (plus g i) (if f=i.toNat then c else c.map (·.add (i.toNat*s))) (f-i.toNat):=by
 intro e n;have o:g=0:=by simp only[plus] at e;omega
 have p:i=0:=by simp only[plus] at e;omega
 subst o;subst p;rcases h rfl n with ⟨j,rfl,rfl⟩|⟨k,j,rfl⟩
 .exact .inl ⟨j,by simp,rfl⟩
 .refine .inr ⟨k,by simpa using j,?_⟩;split
  .rfl
  .simp[Addr.add]
theorem G1(hc:fo P cx){ty:TypeId}{x:Operand}{lo hi:Option Operand}(h:cW B N γ σ a w)(hd:∀k,d=some k->k<N)(F:(lu cx d ty (cD σ x) lo hi σ).run=some bb) :
  nZ P B N γ σ a w d (Instr.sliceAt ty (a.eval x) (lo.map a.eval) (hi.map a.eval) none) bb:=by
 have hv:=h.cD x;unfold lu at F;split at F
 ·
  rename_i s O Q;rw[Q] at hv;split at F
  .rename_i i j G;obtain⟨A,r⟩:=cv F;obtain rfl:=aI r;obtain⟨D,J,E⟩:=iX A;obtain⟨p,hl⟩:=wm hv;have hu:=(hc.T _ _ O).str;have y:=pd (P:=P) h G false (List.length (α:=UInt8) s) (List.length (α:=UInt8) s) rfl (cg _) D J E;refine bN h hd (x:=.string ⟨(sub (α:=UInt8) s i<|minus j i).toArray⟩) ?_ (mkStr<|gj (T2 (α:=UInt8) s _ _) hl);rw[p];have TZ:(⟨List.toArray (α:=UInt8) s⟩:ByteArray).size=List.length (α:=UInt8) s:=rfl;simp only[Instr.sliceAt,Instr.slice,Sem.run_bind,run_underlying hu,Result.andThen_ok,TZ,Option.isSome_none,Iu,pR];rw[y];simp only[Result.andThen_ok,Sem.run_pure];rw[Rh (show aq from s) D J]
  .cases F
 ·
  rename_i u e l O Q;rw[Q] at hv;obtain⟨t,o⟩:=aC F;obtain rfl:=Ty.eq_of_beq t;split at o
  .rename_i i j G;obtain⟨A,r⟩:=cv o;obtain rfl:=aI r;obtain⟨D,J,E⟩:=iX A;obtain⟨Z,U,V,k3,k4⟩:=(hc.T _ _ O).slice;obtain⟨cs,aeo,p⟩:=dQ.1 hv;have H:len (α:=u.den) l=(List.length (α:=u.den) l:Int):=rfl;rcases aeo with ⟨⟨K,e1⟩,e2⟩|⟨b,R,f,e1,e2,e3,e4⟩
   .have L:a.eval x=.slice K 0 0:=by rw[p,e1];rfl
    have M:List.length (α:=u.den) l=0:=by rw[show l=([]:List u.den) from e2];rfl
    rw[H,M] at E;have hi0:i=0:=by omega
    have hj0:j=0:=by omega
    subst hi0;subst hj0;have y:=pd (P:=P) h G true 0 0 (by rw[H,M]) (cg _) D J (by rw[H,M];exact E);refine bN h hd (x:=.slice K 0 0) ?_ ⟨_,.inl ⟨⟨K,rfl⟩,?_⟩,rfl⟩
    .rw[L];simp only[Instr.sliceAt,Instr.slice,Sem.run_bind,run_underlying U,Result.andThen_ok,y,V.sizeOf w,Sem.run_pure];rfl
    .exact sub_zero (α:=u.den) l
   .have L:a.eval x=.slice (some ⟨b,R,none⟩) (List.length (α:=u.den) l) f:=by rw[p,e1];rfl
    have y:=pd (P:=P) h G true (List.length (α:=u.den) l) f H e2 D J E;have hj:j.toNat<=List.length (α:=u.den) l:=by rw[H] at E;omega
    have afw:=Xv (w:=w) (i:=i) (j:=j) e4 D J (by rw[H] at E;exact E) e2 e3;refine bN h hd (x:=.slice (if f=i.toNat then some ⟨b,R,none⟩ else some ⟨b,R+i.toNat*u.size,none⟩) (j.toNat-i.toNat) (f-i.toNat)) ?_
     ⟨_,afw (if f=i.toNat then some ⟨b,R,none⟩ else some ⟨b,R+i.toNat*u.size,none⟩) (by
      split
      .rename_i v;exact .inr ⟨v.symm,rfl⟩
      .exact .inl rfl),rfl⟩
    rw[L];simp only[Instr.sliceAt,Instr.slice,Sem.run_bind,run_underlying U,Result.andThen_ok,y,V.sizeOf w,Sem.run_pure,Ex,addr_add]
  .cases o
 ·
  rename_i u c aP lo' n O Q;rw[Q] at hv;split at F
  .rename_i W z;obtain⟨t,o⟩:=aC F;simp only[dv] at t;have C:=eT t.1;split at o
   .rename_i i j G;obtain⟨A,r⟩:=cv o;obtain rfl:=aI r;obtain⟨D,J,E⟩:=iX A;obtain⟨Z,U,V,k3,k4⟩:=(hc.T _ _ O).slice;obtain⟨e',k,g2,X,g4,g5,g,f,g6,g7,g8,gF,g9⟩:=bk z C hv.2;have hue:u=e':=by
     have:=t.2;rw[g2] at this;exact Ty.eq_of_beq this
    subst hue;obtain g6:a.eval x=_:=by simpa using g6
    have y:=pd (P:=P) h G true n.toNat f (by omega) g7 D J E;refine bN h hd (x:=.slice (if f=i.toNat then g else g.map (·.add (i.toNat*u.size))) (j.toNat-i.toNat) (f-i.toNat)) ?_
     ⟨⟨_,rfl,rfl⟩,W,z,by omega,λ_=>⟨u,k,g2,by simp only[plus];omega,by simp only[minus];omega,by simp only[plus,minus];omega,(if f=i.toNat then g else g.map (·.add (i.toNat*u.size))),f-i.toNat,?_,?_,?_,⟨gF.1.sub _ _,gF.2.sub X D _⟩,?_⟩⟩
    .rw[g6];simp only[Instr.sliceAt,Instr.slice,Sem.run_bind,run_underlying U,Result.andThen_ok,y,V.sizeOf w,Sem.run_pure]
    .have:(minus j i).toNat=j.toNat-i.toNat:=by simp only[minus];omega
     rw[this]
    .simp only[minus];omega
    .omega
    .rcases g9 with g9|⟨b,c',g9,g10⟩
     .exact .inl (by simp only[minus];omega)
     .by_cases v:f=i.toNat
      .exact .inl (by simp only[minus];omega)
      .refine .inr ⟨b,c',g9,?_⟩;rw[aM v,g10];have:(plus lo' i).toNat=lo'.toNat+i.toNat:=by simp only[plus];omega
       simp only[Ex,addr_add,this,gx]
   .cases o
  .cases F
 ·
  rename_i u c aP O Q;rw[Q] at hv;split at F
  .rename_i W z;obtain⟨t,o⟩:=aC F;simp only[dv] at t;have C:=eT t.1;split at o
   .rename_i e l hbv;obtain⟨hue,r⟩:=aC o;obtain rfl:=Ty.eq_of_beq hue;obtain⟨Z,U,V,k3,k4⟩:=(hc.T _ _ O).slice;obtain⟨e',n',g1,g2,X⟩:=bk z C hv.2;have afx:W.row=some (u,List.length (α:=u.den) l):=bF.dk t.2 hbv;rw[afx] at g2;obtain⟨rfl,rfl⟩:=br (aI g2);have hat:=h.ok.boxes c W z;rw[cE,g1] at hat;obtain⟨e2,l2,j1,j2,j3⟩:=hat;have afy:∃g f,a.eval x=.slice g (List.length (α:=u.den) l) f/\List.length (α:=u.den) l<=f/\f<=maxLen/\(((f=0/\List.length (α:=u.den) l=0)/\γ.loc c=none/\g=none)\/∃b,γ.loc c=some (b,f)/\g=some ⟨b,0,none⟩):=by
     rw[hbv] at j1;cases j1;rcases X with ⟨X,g4⟩|⟨b,f,X,g4⟩
     .obtain g4:a.eval x=_:=by simpa using g4
      rcases j3 with ⟨_,j4⟩|⟨_,_,_,_,_,j3,_⟩
      .have M:List.length (α:=u.den) l=0:=by rw[j4];rfl
       exact⟨none,0,by rw[g4,M],by omega,nY _,.inl ⟨⟨rfl,M⟩,X,rfl⟩⟩
      .rw[X] at j3;cases j3
     .obtain g4:a.eval x=_:=by simpa using g4
      rcases j3 with ⟨j3,_⟩|⟨acv,acw,cur,tid,fr,q1,Y,q3,acx,q4,q5,q6,q7⟩
      .rw[X] at j3;cases j3
      .rw[X] at q1;obtain⟨rfl,rfl⟩:=br (aI q1);exact⟨_,f,g4,q4,q5,.inr ⟨b,X,rfl⟩⟩
    obtain⟨g,f,m1,m2,m3,m4⟩:=afy;have hF:uC g f:=by
     rcases m4 with ⟨⟨Y,_⟩,_⟩|⟨b,q1,Y⟩
     .exact .inl Y
     .exact .inr ⟨b,0,Y⟩
    have hZ:C3 γ W c 0 g f:=λ_ _=>by
     rcases m4 with ⟨⟨Y,_⟩,q3,q4⟩|⟨b,q1,Y⟩
     .exact .inl ⟨q3,q4,Y⟩
     .exact .inr ⟨b,q1,Y⟩
    have I:∀{i j:Int},bounds σ (len (α:=u.den) l) lo hi=some (i,j)->0<=i->i<=j->j<=len (α:=u.den) l ->
      (Instr.sliceAt ty (a.eval x) (lo.map a.eval) (hi.map a.eval) none).run P w=.ok (.slice (if f=i.toNat then g else g.map (·.add (i.toNat*u.size))) (j.toNat-i.toNat)<|f-i.toNat) w:=by
     intro i j G D J E;have y:=pd (P:=P) h G true (List.length (α:=u.den) l) f rfl m2 D J E;rw[m1];simp only[Instr.sliceAt,Instr.slice,Sem.run_bind,run_underlying U,Result.andThen_ok,y,V.sizeOf w,Sem.run_pure]
    split at r
    .obtain rfl:=aI r;have:=I (i:=0) (j:=len (α:=u.den) l) rfl (by omega) (by simp only[len];omega) (by omega);have hjl:(len (α:=u.den) l).toNat=List.length (α:=u.den) l:=by simp[len]
     rw[hjl] at this;refine bN h hd (x:=a.eval x) ?_ hv;rw[this,m1]
     congr 1
     have:(g.map (·.add ((0:Int).toNat*u.size)))=g:=by cases g<;>simp[Addr.add]
     rw[this];simp
    .split at r
     .rename_i i j G;obtain⟨A,S⟩:=cv r;obtain rfl:=aI S;obtain⟨D,J,E⟩:=iX A;have H:len (α:=u.den) l=(List.length (α:=u.den) l:Int):=rfl;rw[H] at E;refine bN h hd (I G D J E)
       ⟨⟨_,rfl,rfl⟩,W,z,by omega,λ_=>⟨u,_,afx,D,by simp only[minus];omega,by simp only[minus];omega,(if f=i.toNat then g else g.map (·.add (i.toNat*u.size))),f-i.toNat,?_,?_,?_,⟨hF.sub _ _,by have:=hZ.sub (re 0) D u.size;rwa [show plus 0 i=i by simp[plus]] at this⟩,?_⟩⟩
      .have:(minus j i).toNat=j.toNat-i.toNat:=by simp only[minus];omega
       rw[this]
      .simp only[minus];omega
      .omega
      .by_cases v:f=i.toNat
       .exact .inl (by simp only[minus];omega)
       .rcases m4 with ⟨q1,q3⟩|⟨b,q1,Y⟩
        .exact .inl (by simp only[minus];omega)
        .refine .inr ⟨b,f,q1,?_⟩;rw[aM v,Y];simp only[Ex,addr_add,sr]
     .cases r
   .cases o
  .cases F
 ·
  rename_i m u c aP s q O Q;rw[Q] at hv;obtain⟨hlm,o⟩:=aC F;simp only[dv] at hlm;obtain⟨W,z,C⟩:=jP hlm.1;have ahj:=GV hlm.2;split at o
  .rename_i i j G;obtain⟨A,S⟩:=cv o;obtain rfl:=aI S;obtain⟨D,J,E⟩:=iX A;obtain⟨Z,U,V,k3⟩:=(hc.T _ _ O).arr;obtain⟨b,f,hl,p⟩:=bk z C hv.2;obtain p:a.eval x=.pointer (some ⟨b,cG (s::q),none⟩):=by simpa using p
   have y:=pd (P:=P) h G false m m rfl (cg _) D J E;refine bN h hd (x:=.slice (some<|if m=i.toNat then⟨b,cG (s::q),none⟩ else(⟨b,cG (s::q),none⟩:Addr).add (i.toNat*u.size)) (j.toNat-i.toNat) (m-i.toNat)) ?_
    ⟨⟨_,rfl,rfl⟩,W,z,by omega,λ_=>⟨by simp,b,f,hl,D,by simp only[minus];omega,by simp only[minus];omega,some (if m=i.toNat then⟨b,cG (s::q),none⟩ else(⟨b,cG (s::q),none⟩:Addr).add (i.toNat*u.size)),m-i.toNat,?_,?_,?_⟩⟩
   .rw[p];simp only[Instr.sliceAt,Sem.run_bind,run_underlying U,Result.andThen_ok,Instr.sureAddr,Sem.run_pure,y,V.sizeOf w]
   .have:(minus j i).toNat=j.toNat-i.toNat:=by simp only[minus];omega
    rw[this]
   .simp only[minus];omega
   .by_cases v:m=i.toNat
    .exact .inl (by simp only[minus];omega)
    .refine .inr ?_;rw[aM v];simp only[addr_add]
  .cases o
 ·
  rename_i m u c aP O Q;rw[Q] at hv;split at F
  .rename_i W z;obtain⟨t,o⟩:=aC F;simp only[dv,jL] at t;have C:=eT t.1;split at o
   .rename_i n e l hbv;obtain⟨hq,r⟩:=aC o;simp only[dv] at hq;obtain rfl:=eT hq.1.1;obtain rfl:=Ty.eq_of_beq hq.1.2;have ahj:=GV hq.2;split at r
    .rename_i i j G;obtain⟨A,S⟩:=cv r;obtain rfl:=aI S;obtain⟨D,J,E⟩:=iX A;obtain⟨Z,U,V,k3⟩:=(hc.T _ _ O).arr;obtain⟨b,f,hl,p⟩:=bk z C hv.2;obtain p:a.eval x=.pointer (some ⟨b,0,none⟩):=by simpa [cG] using p
     have y:=pd (P:=P) h G false m m rfl (cg _) D J E;have hF:uC (some<|if m=i.toNat then⟨b,0,none⟩ else(⟨b,0,none⟩:Addr).add (i.toNat*u.size)) (m-i.toNat):=by
      refine .inr ?_;split
      .exact⟨b,0,rfl⟩
      .exact⟨b,0+i.toNat*u.size,by rw[addr_add]⟩
     refine bN h hd (x:=.slice (some<|if m=i.toNat then⟨b,0,none⟩ else(⟨b,0,none⟩:Addr).add (i.toNat*u.size)) (j.toNat-i.toNat) (m-i.toNat)) ?_
      ⟨⟨_,rfl,rfl⟩,W,z,by omega,λ_=>⟨u,m,bF.p4 t.2 hbv,D,by simp only[minus];omega,by simp only[minus];omega,some (if m=i.toNat then⟨b,0,none⟩ else(⟨b,0,none⟩:Addr).add (i.toNat*u.size)),m-i.toNat,?_,?_,?_,⟨hF,λ_ G=>by rw[t.2] at G;cases G⟩,?_⟩⟩
     .rw[p];simp only[Instr.sliceAt,Sem.run_bind,run_underlying U,Result.andThen_ok,Instr.sureAddr,Sem.run_pure,y,V.sizeOf w]
     .have:(minus j i).toNat=j.toNat-i.toNat:=by simp only[minus];omega
      rw[this]
     .simp only[minus];omega
     .simp only[maxLen];omega
     .by_cases v:m=i.toNat
      .exact .inl (by simp only[minus];omega)
      .refine .inr ⟨b,f,hl,?_⟩;rw[aM v];simp only[addr_add,sr]
    .cases r
   .cases o
  .cases F
 .cases F
end
end Go.Ge
namespace Go.Ge
open RowKit
section
variable {P:Program} {B:qK} {N:Nat} {γ:Gh} {σ bb:St} {a:Act} {w:World} {d:Option Nat} {cx:Ctx}
theorem bI.flat{w q:World}{I I':Nat->Nat->Prop}:∀{t:Ty} {x:t.den} {cs:List Value},t.flat=true->bI w I t x cs->bI q I' t x cs:=by
 intro t;induction t with
 | int k=>intro x cs _ h;exact h
 | bool=>intro x cs _ h;exact h
 | str=>intro x cs _ h;exact h
 | slice e p=>intro x cs f;cases f
 | arr n e p=>intro x cs f h;exact⟨h.1,h.2.1,λi y s=>p f (h.2.2 i y s)⟩
 | pair a b g j =>
   intro x cs f h;simp only[Ty.flat,dv] at f;obtain⟨v,A,C,l,m⟩:=h;exact⟨v,A,C,g f.1 l,j f.2 m⟩
 | unit=>intro x cs _ h;exact h
 | alt u a r g o =>
   intro x cs f h;simp only[Ty.flat,dv] at f;rcases x with y|z
   .obtain⟨l,c,m,D⟩:=h;exact⟨l,c,m,g f.1 D⟩
   .exact o f.2 (show bI w I r z cs from h)
 | zj=>intro x cs _ h;exact h
def zx(w:World)(I:Nat->Nat->Prop)(e:Ty)(l:List e.den)(v:Value):Prop :=
 (l=[]/\∃f b,v=.slice f 0 b/\b<=maxLen/\uC f b) \/
 ∃g h b,v=.slice (some ⟨g,h,none⟩) l.length b/\l.length<=b/\b<=maxLen /\
  ∀(i:Nat) (x:e.den),l[i]?=some x->∃k:List Value,k.length=e.size /\
   (∀(j:Nat) c,k[j]?=some c->w.cell? ⟨g,h+i*e.size+j,none⟩=some c)/\bI w I e x k
theorem x5{I:Nat->Nat->Prop}{e:Ty}{l:List e.den}{f:Nat}{b:Array Value}{k:TypeId}{r:Nat×Nat}(s:w.heap[f]?=some (.cells b k r)){n:Nat}(u:n*e.size<=b.size)
  (h:∀(i:Nat) (x:e.den),l[i]?=some x->bI w I e x ((b.toList.drop<|i*e.size).take e.size)) (v:l.length<=n) (p:Nat) :
  ∀(i:Nat) (x:e.den),(l.drop p)[i]?=some x->∃m:List Value,m.length=e.size /\
   (∀(j:Nat) c,m[j]?=some c->w.cell? ⟨f,p*e.size+i*e.size+j,none⟩=some c)/\bI w I e x m:=by
 intro i x o;rw[mn] at o;have q:=h _ x o;have t:=(fq.1 o).1;refine⟨_,q.length,λj c g=>?_,q⟩;rw[cell_of_heap s];rw[fi] at g;split at g
 .rw[mn] at g;rw[<-gx];simpa using g
 .cases g
theorem cE.row{b:Nat}{bx:bF}{s:Nat->Option bF}(h:cE γ s w b bx){j f:Nat}(t:γ.loc b=some (j,f)) :
  (∀(e:Ty) (l:List e.den),bx.buf=true->bx.val=.data (.slice e) l->∃c tid g,w.heap[j]?=some (.cells c tid g)/\lT c g/\l.length<=f/\f<=maxLen/\c.size=f*e.size/\0<e.size /\
   ∀(i:Nat) (x:e.den),l[i]?=some x->bI w γ.I e x ((c.toList.drop<|i*e.size).take e.size)) /\
  (∀(n:Nat) (e:Ty) (l:List e.den),bx.buf=false->bx.val=.data (.arr n e) l->∃c tid g,w.heap[j]?=some (.cells c tid g)/\lT c g/\l.length=n/\c.size=n*e.size /\
   ∀(i:Nat) (x:e.den),l[i]?=some x->bI w γ.I e x ((c.toList.drop<|i*e.size).take e.size)):=by
 refine⟨λe l u v=>?_,λn e l u v=>?_⟩
 .rw[cE,u] at h;obtain⟨K,L,A,C,q⟩:=h;rw[v] at A;cases A;rcases q with ⟨q,_⟩|⟨k,m,c,tid,g,o,y,z,p,r,D,E,F⟩
  .rw[t] at q;cases q
  .rw[t] at o;obtain⟨rfl,rfl⟩:=br (aI o);exact⟨c,tid,g,y,z.th,r,D,E,C,F⟩
 .rw[cE,u] at h;obtain⟨k,m,c,tid,g,o,y,z,p,r⟩:=h;rw[t] at o;obtain⟨rfl,rfl⟩:=br (aI o);rw[v] at r;obtain⟨G,H,J⟩:=r;exact⟨c,tid,g,y,z,G,by simpa using H,J⟩
theorem Da{u e:Ty}{l:List u.den}{m:List e.den}(h:toL u e l=some m):∃q:u=e,m=q▸l:=jM h
theorem mz{e:Ty}{v:aO}{l:List e.den}(f:gd e σ v=some l) :
  v=.data (.slice e) l\/(v=.oa/\l=[])\/(∃b c g,v=.whole b c/\σ.mem b=some g/\g.aP=c/\g.buf=true/\g.val=.data (.slice e) l) \/
  ∃b c o n g,v=.part b c o n/\σ.mem b=some g/\g.aP=c/\((g.buf=true/\∃j:List e.den,g.val=.data (.slice e) j/\l=sub j o n)\/(g.buf=false/\∃(k:Nat) (j:List e.den),g.val=.data (.arr k e) j/\l=sub j o n)):=by
 unfold gd at f;split at f
 .obtain⟨q,rfl⟩:=Da f;subst q;exact .inl rfl
 .exact .inr (.inl ⟨rfl,(aI f).symm⟩)
 .rename_i b c;split at f
  .rename_i g p;cases m:(Nat.beq g.aP c&&g.buf) with
   | false=>rw[m,iT] at f;exact absurd f (by simp)
   | true =>
     rw[m,eC] at f;simp only[dv] at m;split at f
     .rename_i u j h;obtain⟨q,rfl⟩:=Da f;subst q;exact .inr (.inr<|.inl ⟨b,c,g,rfl,p,eT m.1,m.2,h⟩)
     .exact absurd f (by simp)
  .exact absurd f (by simp)
 .rename_i b c o n;split at f
  .rename_i g p;cases m:Nat.beq g.aP c with
   | false=>rw[m,iT] at f;exact absurd f (by simp)
   | true =>
     rw[m,eC] at f;split at f
     .rename_i u j i h;obtain⟨q,rfl⟩:=Da f;subst q;exact .inr (.inr<|.inr ⟨b,c,o,n,g,rfl,p,eT m,.inl ⟨i,j,h,rfl⟩⟩)
     .rename_i r u j i h;obtain⟨q,rfl⟩:=Da f;subst q;exact .inr (.inr<|.inr ⟨b,c,o,n,g,rfl,p,eT m,.inr ⟨i,r,j,h,rfl⟩⟩)
     .exact absurd f (by simp)
  .exact absurd f (by simp)
 .exact absurd f (by simp)
theorem HU{c:Type}{l:List c}{b n:Int}(e:0<=b)(f:0<=n)(g:b+n<=l.length):(sub l b n).length=n.toNat:=by
 simp only[sub,fB,kx];omega
theorem rm(Q:bB B γ σ.mem w){e:Ty}{v:aO}{val:Value}{l:List e.den}(R:cl γ σ.mem w v .val [val])(hl:gd e σ v=some l):zx w γ.I e l val:=by
 rcases mz hl with rfl|⟨rfl,rfl⟩|⟨b,U,G,rfl,y,q,f,g⟩|⟨b,U,C,n,G,rfl,y,q,V⟩
 .obtain⟨cs,H,u⟩:=dQ.1 R;rcases H with ⟨⟨p,H⟩,W⟩|⟨o,X,h,H,W,h3,h4⟩
  .exact .inl ⟨W,p,0,by rw[u,H];rfl,nY _,.inl rfl⟩
  .refine .inr ⟨o,X,h,by rw[u,H];rfl,W,h3,λi x z=>?_⟩;obtain⟨es,J,t,r⟩:=h4 i x z;exact⟨es,J,λj c hj=>(t j c hj).1,r⟩
 .obtain rfl:val=_:=by simpa [cl] using R
  exact .inl ⟨rfl,none,0,rfl,nY _,.inl rfl⟩
 .obtain⟨e',n',J,t,r⟩:=bk y q R.2;rw[bF.dk J g] at t;obtain⟨rfl,rfl⟩:=br (aI t);rcases r with ⟨r,D⟩|⟨o,h,r,D⟩
  .obtain rfl:val=_:=by simpa using D
   have K:=Q.boxes b G y;rw[cE,J] at K;obtain⟨e2,l2,Y,j2,S⟩:=K;rw[g] at Y;cases Y;rcases S with ⟨_,j4⟩|⟨_,_,_,_,_,S,_⟩
   .exact .inl ⟨j4,none,0,rfl,nY _,.inl rfl⟩
   .rw[r] at S;exact absurd S (by simp)
  .obtain rfl:val=_:=by simpa using D
   obtain⟨L,tid,Z,M,q2,E,q4,q5,q6,O⟩:=((Q.boxes b G y).row r).1 _ l J g;refine .inr ⟨o,0,h,rfl,E,q4,λi x z=>?_⟩;have:=x5 M (n:=h) (by omega) O E 0 i x z;rw[MZ] at this;exact this
 .obtain⟨e',k,t,r,D,g5,p,h,g6,g7,T,gF,s⟩:=bk y q R.2;obtain rfl:val=_:=by simpa using g6
  rcases V with ⟨f,F,g,rfl⟩|⟨f,k0,F,g,rfl⟩
  .rw[bF.dk f g] at t;obtain⟨rfl,rfl⟩:=br (aI t);have hlen:=HU r D g5;rcases s with s|⟨o,c,s,A⟩
   .subst s;exact .inl ⟨by simp[sub],p,h,rfl,T,gF.1⟩
   .obtain⟨L,tid,Z,M,q2,E,q4,q5,q6,O⟩:=((Q.boxes b G y).row s).1 _ F f g;refine .inr ⟨o,C.toNat*e.size,h,by rw[A,hlen],by rw[hlen];exact g7,T,λi x z=>?_⟩;have m:((List.drop C.toNat F).take n.toNat)[i]?=some x:=z;rw[fi] at m;split at m
    .exact x5 M (n:=c) (by omega) O E C.toNat i x m
    .exact absurd m (by simp)
  .rw[bF.p4 f g] at t;obtain⟨rfl,rfl⟩:=br (aI t);rcases s with s|⟨o,c,s,A⟩
   .subst s;exact .inl ⟨by simp[sub],p,h,rfl,T,gF.1⟩
   .obtain⟨L,tid,Z,M,q2,E,q5,O⟩:=((Q.boxes b G y).row s).2 _ _ F f g;have hlen:=HU (l:=F) r D (by rw[E];exact g5);refine .inr ⟨o,C.toNat*e.size,h,by rw[A,hlen],by rw[hlen];exact g7,T,λi x z=>?_⟩;have m:((List.drop C.toNat F).take n.toNat)[i]?=some x:=z;rw[fi] at m;split at m
    .exact x5 M (n:=k0) (by omega) O (by omega) C.toNat i x m
    .exact absurd m (by simp)
theorem Cf{I:Nat->Nat->Prop}{e:Ty}{blk:Nat}:∀{l:List e.den} {off:Nat},(∀(i:Nat) (x:e.den),l[i]?=some x->∃g:List Value,g.length=e.size /\
   (∀(j:Nat) c,g[j]?=some c->w.cell? ⟨blk,off+i*e.size+j,none⟩=some c)/\bI w I e x g) ->
  ∃b:List Value,b.length=l.length*e.size/\(∀(j:Nat) c,b[j]?=some c->w.cell? ⟨blk,off+j,none⟩=some c)/\(∀c∈b,c.oneCell'=true) /\
   ∀(i:Nat) (x:e.den),l[i]?=some x->bI w I e x ((b.drop<|i*e.size).take e.size):=by
 intro l;induction l with
 | nil=>intro off h;exact⟨[],by simp,by simp,by simp,by simp⟩
 | cons q r t =>
   intro off h;obtain⟨g,m,u,s⟩:=h 0 q rfl;obtain⟨b,v,y,z,A⟩:=t (off:=off+e.size) λi x n=>by
    obtain⟨o,C,D,E⟩:=h (i+1) x (by simpa using n);refine⟨o,C,λj c f=>?_,E⟩;have:=D j c f;rw[zm] at this;rw[<-this];congr 2;omega
   refine⟨g++b,by rw[fQ,m,v,dd,zm];omega,λj c f=>?_,λc k=>?_,λi x n=>?_⟩
   .rw[On] at f;split at f
    .have:=u j c f;simpa using this
    .rename_i F;have:=y _ c f;rw[<-this];congr 2;omega
   .rcases pO.1 k with k|k
    .exact s.one c k
    .exact z c k
   .cases i with
    | zero =>
      obtain rfl:q=x:=by simpa using n
      rw[MZ,wR,<-m,Iy];exact s
    | succ i =>
      have p:r[i]?=some x:=by simpa using n
      rw[zm,Wa,<-vm,<-m,Bf,m];exact A i x p
theorem Db(h:cW B N γ σ a w){b:Nat}{i:bF}{e:Ty}{n:Nat}(p:σ.mem b=some i)(m:i.row=some (e,n))(g:freeze σ b=some bb) :
  ∃bQ,cW B N bQ bb a w/\Ext B γ σ.mem w bQ bb.mem w/\bQ.loc=γ.loc/\∀j k l,γ.loc b=some (j,k)->l<n*e.size->bQ.I j l:=by
 obtain⟨m1,q⟩:=h.ok.freeze p m;have r:bb={ slots:=σ.slots,mem:=cH σ.mem b { i with ro:=true } }:=by
  unfold freeze at g;rw[p] at g;cases f:i.ro with
  | true =>
    simp only[f,eC,sq] at g;subst g;have:cH σ.mem b { i with ro:=true }=σ.mem:=by
     funext c;by_cases e:c=b
     .subst e;rw[bw,p];congr 1;cases i;simp only at f;subst f;rfl
     .rw[aV _ e]
    rw[this]
  | false =>
    simp only[f,iT] at g;cases o:i.lk with
    | true=>simp[o] at g
    | false=>simp only[o,iT,sq] at g;subst g;rfl
 subst r;exact⟨_,h.go q m1,q,rfl,λj k l s t=>.inr ⟨⟨k,s⟩,t⟩⟩
theorem zx.data{g:Gh}{e:Ty}{l:List e.den}{val:Value}(h:zx w γ.I e l val)(r:∀b o,γ.I b o->g.I b o)
  (s:∀f off cap,val=.slice (some ⟨f,off,none⟩) l.length cap->∀j,j<l.length*e.size->g.I f (off+j)):bI w g.I (.slice e) l [val]:=by
 rcases h with ⟨rfl,base,cap,k,n,p⟩|⟨f,off,cap,k,n,p,t⟩
 .rcases p with rfl|⟨f,off,rfl⟩
  .exact .inl ⟨⟨base,by rw[k]⟩,rfl⟩
  .exact .inr ⟨f,off,cap,by rw[k];rfl,nY _,n,λi x m=>by cases m⟩
 .refine .inr ⟨f,off,cap,by rw[k],n,p,λi x m=>?_⟩;obtain⟨es,u,v,y⟩:=t i x m;have hi:i<l.length:=(fq.1 m).1;refine⟨es,u,λj c q=>⟨v j c q,?_⟩,bI.mono r (λ_ _ _=>rfl) y⟩;have z:j<e.size:=by have:=(fq.1 q).1;omega
  have:(i+1)*e.size<=l.length*e.size:=fO _ hi;rw[zm] at this;rw[xP];exact s f off cap k _ (by omega)
theorem Dc(h:cW B N γ σ a w){e:Ty}{v:aO}{i:Value}{l:List e.den}(D:cl γ σ.mem w v .val [i])(V:gd e σ v=some l)(H:gy σ v=some bb) :
  ∃bQ,cW B N bQ bb a w/\Ext B γ σ.mem w bQ bb.mem w/\bI w bQ.I (.slice e) l [i]:=by
 have s:=rm h.ok D V;rcases mz V with rfl|⟨rfl,rfl⟩|⟨b,L,W,rfl,y,p,f,o⟩|⟨b,L,lo,n,W,rfl,y,p,M⟩
 .obtain rfl:=aI H;obtain⟨cs,X,g⟩:=dQ.1 D;have:cs=[i]:=by
   obtain⟨c,rfl⟩:=V0.1 X.length;rw[g];rfl
  exact⟨γ,h,Ext.refl _ _ _ _,by rw[<-this];exact X⟩
 .obtain rfl:=aI H;obtain rfl:i=_:=by simpa [cl] using D
  exact⟨γ,h,Ext.refl _ _ _ _,.inl ⟨⟨none,rfl⟩,rfl⟩⟩
 .obtain⟨bQ,O,E,s3,Q⟩:=Db h y (bF.dk f o) H;refine⟨bQ,O,E,s.data E.I λF R S g j z=>?_⟩;obtain⟨Y,n',g1,A,x⟩:=bk y p D.2;rcases x with ⟨x,C⟩|⟨q,t,x,C⟩
  .obtain rfl:i=_:=by simpa using C
   injection g with m J K
   rw[<-J,MZ] at z;omega
  .obtain rfl:i=_:=by simpa using C
   injection g with m J K
   injection m with m
   injection m with m T
   subst m;subst T;rw[sr];exact Q q t j x z
 .obtain⟨Y,k,A,x,C,Z,base,S,g6,g7,g8,gF,r⟩:=bk y p D.2;obtain rfl:i=_:=by simpa using g6
  have U:e=Y/\l.length=n.toNat:=by
   rcases M with ⟨f,l0,o,rfl⟩|⟨f,k0,l0,o,rfl⟩
   .rw[bF.dk f o] at A;obtain⟨rfl,rfl⟩:=br (aI A);exact⟨rfl,HU x C Z⟩
   .rw[bF.p4 f o] at A;obtain⟨rfl,rfl⟩:=br (aI A);rcases r with r|⟨F,c,r,G⟩
    .subst r;exact⟨rfl,by simp[sub]⟩
    .obtain⟨cur,tid,fr,m,J,K,q5,q7⟩:=((h.ok.boxes b W y).row r).2 _ _ l0 f o;exact⟨rfl,HU x C (by rw[K];exact Z)⟩
  obtain⟨rfl,u⟩:=U;obtain⟨bQ,O,E,s3,Q⟩:=Db h y A H;refine⟨bQ,O,E,s.data E.I λF R t g j z=>?_⟩;rcases r with r|⟨q,c,r,G⟩
  .rw[u,r] at z;simp at z
  .injection g with m J K
   rw[G] at m;injection m with m
   injection m with m T
   subst m;subst T;refine Q q c _ r ?_;have:(lo.toNat+n.toNat)*e.size<=k*e.size:=fO _ (by omega);rw[gx] at this;rw[u] at z;omega
theorem BA{e:Ty}{v:aO}{l:List e.den}{b:Nat}(h:gd e σ v=some l)(k:freeze σ b=some bb):gd e bb v=some l:=by
 have z:∀c j,σ.mem c=some j->∃r,bb.mem c=some { j with ro:=r }:=by
  intro c j q;unfold freeze at k;split at k
  .rename_i p t;cases m:p.ro with
   | true=>simp only[m,eC,sq] at k;subst k;exact⟨j.ro,q⟩
   | false =>
     cases o:p.lk with
     | true=>simp[m,o] at k
     | false =>
       simp only[m,o,iT,sq] at k;subst k;by_cases e:c=b
       .subst e;rw[t] at q;obtain rfl:=aI q;exact⟨true,by simp[St.b5,o]⟩
       .exact⟨j.ro,by simp[St.b5,iI e,q]⟩
  .cases k
 rcases mz h with rfl|⟨rfl,rfl⟩|⟨c,u,j,rfl,x,g,f,i⟩|⟨c,u,C,n,j,rfl,x,g,y⟩
 .exact h
 .rfl
 .obtain⟨r,s⟩:=z c j x;simp only[gd,s,g,f,i,CQ,Bool.and_self,eC];simp[toL,Ty.beq_refl]
 .obtain⟨r,s⟩:=z c j x;rcases y with ⟨f,A,i,rfl⟩|⟨f,D,A,i,rfl⟩
  .simp only[gd,s,g,f,i,CQ,eC];simp[toL,Ty.beq_refl]
  .simp only[gd,s,g,f,i,CQ,eC];simp[toL,Ty.beq_refl]
theorem Dd{s r:Ty}{p q:aO}{x:(Ty.pair s r).den}(h:qJ σ (.pair s r) (.mix p q)=some x):∃(y:s.den) (z:r.den),qJ σ s p=some y/\qJ σ r q=some z/\x=(y,z):=by
 replace h:(match qJ σ s p,qJ σ r q with
  | some x,some y=>some ((x,y):(Ty.pair s r).den)
  | _,_=>none)=some x:=h
 split at h
 .rename_i y z b c;exact⟨y,z,b,c,(aI h).symm⟩
 .exact absurd h (by simp)
theorem M7{s r:Ty}{p q:aO}{y:s.den}{z:r.den}(b:qJ σ s p=some y)(c:qJ σ r q=some z):qJ σ (.pair s r) (.mix p q)=some ((y,z):(Ty.pair s r).den):=by
 show(match qJ σ s p,qJ σ r q with
  | some x,some y=>some ((x,y):(Ty.pair s r).den)
  | _,_=>none)=some (y,z)
 rw[b,c]
theorem vx{p q:aO}(h:gy σ (.mix p q)=some bb):∃bG,gy σ p=some bG/\gy bG q=some bb:=by
 unfold gy at h;split at h
 .rename_i bG b;exact⟨bG,b,h⟩
 .exact absurd h (by simp)
theorem pz{t:Ty}:∀{x:t.den},qJ σ t .ss=some x->(∀w I,bI w I t x [.nilIface])/\(∀τ:St,qJ τ t .ss=some x)/\bZ t [.nilIface]=.nilIface/\t.isAgg=false:=by
 induction t with
 | alt u a r g c =>
   intro x h;have h:(match qJ σ r .ss with|some x=>some (Sum.inr x)|none=>none:Option (a.den⊕r.den))=some x:=h;cases f:qJ σ r .ss with
   | none=>rw[f] at h;cases h
   | some y =>
     rw[f] at h;obtain rfl:=aI h;obtain⟨i,j,k,l⟩:=c f;refine⟨λw I=>i w I,λτ=>?_,k,l⟩;show(match qJ τ r .ss with|some x=>some (Sum.inr x)|none=>none:Option (a.den⊕r.den))=_
     rw[j τ];rfl
 | zj=>intro x h;obtain rfl:()=x:=aI h;exact⟨λw I=>rfl,λτ=>rfl,rfl,rfl⟩
 | slice e=>intro x h;cases h
 | pair a b=>intro x h;cases h
 | _=>intro x h;cases h
theorem Ri:∀{v:aO} {t:Ty} {x:t.den} {σ bb:St} {u:aO},qJ σ t v=some x->gy σ u=some bb->qJ bb t v=some x:=by
 have one:∀{u:aO} {e:Ty} {v:aO} {l:List e.den} {σ bb:St},gd e σ v=some l->gy σ u=some bb->gd e bb v=some l:=by
  intro u;induction u with
  | mix p q f g =>
    intro e v l σ bb h c;simp only[gy] at c;cases i:gy σ p with
    | none=>rw[i] at c;cases c
    | some bG=>rw[i] at c;exact g (f h i) c
  | whole b aP=>intro e v l σ bb h c;exact BA h c
  | part b aP lo n=>intro e v l σ bb h c;exact BA h c
  | _=>intro e v l σ bb h c;obtain rfl:=aI c;exact h
 intro v;induction v with
 | data u y =>
   intro t x σ bb u h c;cases t with
   | slice e=>exact one h c
   | _=>exact h
 | mix p q f g =>
   intro t x σ bb u h c;cases t with
   | pair s r =>
     obtain⟨y,z,j,k,rfl⟩:=Dd h;exact M7 (f j c) (g k c)
   | slice e=>exact one h c
   | _=>cases h
 | ss=>intro t x σ bb u h c;exact(pz h).2.1 _
 | _ =>
   intro t x σ bb u h c;cases t with
   | slice e=>exact one h c
   | _=>cases h
theorem F9{f:Gh}{b:Nat->Option bF}{v:aO}{e:List Value}(h:cl f b w v .cells e)(g:cV v=1):∃c,e=[c]:=by
 have:=h.length;rw[g] at this;exact V0.1 this
theorem T3:∀{v:aO} {t:Ty} {x:t.den} {cs:List Value} {σ bb:St} {γ:Gh} {a:Act},cW B N γ σ a w->cl γ σ.mem w v .cells cs->qJ σ t v=some x->gy σ v=some bb ->
  ∃bQ,cW B N bQ bb a w/\Ext B γ σ.mem w bQ bb.mem w/\bI w bQ.I t x cs:=by
 have A:∀{v:aO} {e:Ty} {l:List e.den} {cs:List Value} {σ bb:St} {γ:Gh} {a:Act},cV v=1->(∀c,cl γ σ.mem w v .cells [c]->cl γ σ.mem w v .val [c])->cW B N γ σ a w->cl γ σ.mem w v .cells cs->gd e σ v=some l->gy σ v=some bb ->
   ∃bQ,cW B N bQ bb a w/\Ext B γ σ.mem w bQ bb.mem w/\bI w bQ.I (.slice e) l cs:=by
  intro v e l cs σ bb γ a C m h i f j;obtain⟨c,rfl⟩:=F9 i C;exact Dc h (m c i) f j
 intro v;induction v with
 | data u y =>
   intro t x cs σ bb γ a h i f j;obtain rfl:=aI j;have key:(∃q:u=t,x=q▸y):=by
    cases t with
    | slice e =>
      rcases mz (show gd e σ (.data u y)=some x from f) with g|⟨g,_⟩|⟨_,_,_,g,_⟩|⟨_,_,_,_,_,g,_⟩
      .injection g with L M;subst L;exact⟨rfl,(eq_of_heq M).symm⟩
      .cases g
      .cases g
      .cases g
    | _=>exact Ty.kz f
   obtain⟨q,D⟩:=key;subst q;subst D;exact⟨γ,h,Ext.refl _ _ _ _,i⟩
 | mix p q E F =>
   intro t x cs σ bb γ a h i f j;cases t with
   | pair s r =>
     obtain⟨O,Q,rfl,C,R⟩:=i;obtain⟨y,z,S,D,rfl⟩:=Dd f;obtain⟨bG,o,G⟩:=vx j;obtain⟨T,U,K,V⟩:=E h C S o;obtain⟨H,W,J,X⟩:=F U (R.ext K) (Ri D o) G;exact⟨H,W,K.trans J,O,Q,rfl,bI.mono J.I J.cells V,X⟩
   | slice e=>exact absurd f (by intro k;cases k)
   | _=>cases f
 | oa =>
   intro t x cs σ bb γ a h i f j;cases t with
   | slice e=>exact A (v:=.oa) rfl (λc k=>k) h i f j
   | _=>cases f
 | whole b aP =>
   intro t x cs σ bb γ a h i f j;cases t with
   | slice e=>exact A (v:=.whole b aP) rfl (λc k=>k) h i f j
   | _=>cases f
 | part b aP lo n =>
   intro t x cs σ bb γ a h i f j;cases t with
   | slice e=>exact A (v:=.part b aP lo n) rfl (λc k=>k) h i f j
   | _=>cases f
 | ss =>
   intro t x cs σ bb γ a h i f j;obtain rfl:=aI j;obtain rfl:cs=[.nilIface]:=i;exact⟨γ,h,Ext.refl ..,(pz f).1 _ _⟩
 | _ =>
   intro t x cs σ bb γ a h i f j;cases t with
   | slice e=>exact absurd f (by intro k;cases k)
   | _=>cases f
theorem mA{t:Ty}{x:t.den}{v:aO}{f:Value}(h:cW B N γ σ a w)(g:cl γ σ.mem w v .val [f])(i:wW σ t v=some (x,bb)) :
  ∃bQ,cW B N bQ bb a w/\Ext B γ σ.mem w bQ bb.mem w/\cl bQ bb.mem w (.data t x) .val [f]:=by
 unfold wW at i;split at i
 .rename_i u y;split at i
  .rename_i J D;obtain⟨rfl,rfl⟩:=br (aI i);obtain⟨q,E⟩:=Ty.kz D;subst q;subst E;exact⟨γ,h,Ext.refl _ _ _ _,g⟩
  .cases i
 .split at i
  .rename_i y bG c o;obtain⟨rfl,rfl⟩:=br (aI i);cases v with
   | data u F=>rename_i z;exact absurd rfl (z u F)
   | mix p q =>
     obtain⟨A,C,G,H,I⟩:=g;obtain rfl:f=_:=by simpa using G
     obtain⟨bQ,j,l,m⟩:=T3 h (show cl γ σ.mem w (.mix p q) .cells (A++C) from⟨A,C,rfl,H,I⟩) c o;refine⟨bQ,j,l,_,m,?_⟩;cases t with
     | pair s r=>rfl
     | slice e=>exact absurd c (by intro k;cases k)
     | _=>cases c
   | oa =>
     cases t with
     | slice e=>obtain⟨bQ,j,l,m⟩:=Dc h g c o;exact⟨bQ,j,l,_,m,rfl⟩
     | _=>cases c
   | whole b aP =>
     cases t with
     | slice e=>obtain⟨bQ,j,l,m⟩:=Dc h g c o;exact⟨bQ,j,l,_,m,rfl⟩
     | _=>cases c
   | part b aP lo n =>
     cases t with
     | slice e=>obtain⟨bQ,j,l,m⟩:=Dc h g c o;exact⟨bQ,j,l,_,m,rfl⟩
     | _=>cases c
   | ss =>
     obtain rfl:=aI o;obtain g:[f]=[Value.nilIface]:=g;obtain rfl:f=.nilIface:=by simpa using g
     exact⟨γ,h,Ext.refl ..,[.nilIface],(pz c).1 _ _,by rw[(pz c).2.2.1]⟩
   | _ =>
     cases t with
     | slice e=>exact absurd c (by intro k;cases k)
     | _=>cases c
  .cases i
end
end Go.Ge
