import Derived.Test.YtcebnmppipejfaaGreatDoorGeB
set_option linter.unusedVariables false
set_option linter.unusedSimpArgs false
set_option linter.unusedSectionVars false
namespace Go.Ge
open RowKit
section
variable {P:Program} {B:qA} {N:Nat} {γ:Gh} {σ aV:St} {a:Act} {w:World} {d:Option Nat} {cx:Ctx}
theorem KN(b c:Bool){f:TypeId}{x y:Operand}(g:P.underlying f=some .bool) :
  (gr .eql f x y (.bool b)<|.bool c).run P w=.ok (.bool<|eqB b c) w/\(gr .neq f x y (.bool b)<|.bool c).run P w=.ok (.bool<|nt<|eqB b c) w:=by
 have e:=run_equalIn_bool' (P:=P) w 9999 f b c g;constructor<;>simp only[gr,eqGuard_at_bool,binOp,Op.equal,Op.maxDepth,Sem.run_bind,Sem.run_pure,Result.andThen_ok,e]<;>rfl
theorem S3{c e:TypeId}(f:P.underlying c=some (.pointer e))(a b:Option Addr)(h:a=none\/b=none)(n:Nat) :
  (Op.equalIn (n+1) c (.pointer a)<|.pointer b).run P w=.ok (a.isNone&&b.isNone) w:=by
 cases a with
 | none=>cases b<;>simp only[Op.equalIn,Sem.run_bind,run_underlying f,Result.andThen_ok]<;>rfl
 | some a=>cases b with
   | none=>simp only[Op.equalIn,Sem.run_bind,run_underlying f,Result.andThen_ok];rfl
   | some b=>simp at h
theorem wg{c e:TypeId}{x y:Operand}(f:P.underlying c=some (.pointer e))(a b:Option Addr)(h:a=none\/b=none) :
  (gr .eql c x y (.pointer a)<|.pointer b).run P w=.ok (.bool<|a.isNone&&b.isNone) w/\(gr .neq c x y (.pointer a)<|.pointer b).run P w=.ok (.bool<|!(a.isNone&&b.isNone)) w:=by
 have e:=S3 (P:=P) (w:=w) f a b h 9999;constructor<;>simp only[gr,eqGuard_at_pointer,binOp,Op.equal,Op.maxDepth,Sem.run_bind,Sem.run_pure,Result.andThen_ok,e]
theorem Zc(J:eS P cx){t:BinOp}{j:TypeId}{x y:Operand}{u v:Value}{p q r:aK}(F:b5 γ σ.mem w p .val [u])(G:b5 γ σ.mem w q .val [v])
  (o:(bin (find cx.T j) (cK cx.kT j) t p q).run=some r):∃z,(gr t j x y u v).run P w=.ok z w/\b5 γ σ.mem w r .val [z]:=by
 unfold bin at o;split at o
 ·
  obtain⟨rfl,K⟩:=sy F;obtain⟨rfl,X⟩:=sy G;split at o
  .rename_i left L;have f:=fP o;rename_i k n Y m _;cases M:aO m 0
   .rw[M] at f;obtain rfl:=aE f;exact S1 K L M
   .rw[M] at f;cases f
  .rename_i L;obtain⟨s,f⟩:=aw o;rename_i k n Y m _;have Z:=xa s;subst Z;exact Qv K L f
 ·
  obtain⟨rfl,K⟩:=we F;obtain⟨rfl,X⟩:=we G;exact Qw o
 ·
  rename_i b c;obtain rfl:=yi F;obtain rfl:=yi G;obtain⟨s,f⟩:=aw o;have C:=J.T _ _ (iH s);have e:=KN (P:=P) (w:=w) b c (x:=x) (y:=y) C.bool;split at f
  .rename_i A;obtain rfl:=aE f;rcases qB A with ⟨rfl,_⟩|⟨_,h⟩
   .exact⟨.bool<|eqB b c,e.1,gb _⟩
   .cases h
  .rename_i A;obtain rfl:=aE f;rcases qB A with ⟨_,h⟩|⟨rfl,_⟩
   .cases h
   .exact⟨.bool<|nt<|eqB b c,e.2,gb _⟩
  .cases f
 ·
  rename_i ta tb O t2 y1;obtain⟨s,f⟩:=aw o;simp only[dF] at s;have C:=J.T _ _ (iH s.1);split at f
  .rename_i y2 e D A;obtain⟨Q,R⟩:=Ty.kz D;subst Q;subst R;split at f
   .rename_i c E;obtain rfl:=aE f;obtain⟨g,S,rfl⟩:=dY.1 F;obtain⟨i,U,rfl⟩:=dY.1 G;have H:=(B9 (P:=P) (γ:=γ) (w:=w)<|.pair ta tb).1 10000 j O _ g i c C S U E (by have:=CO s.2;omega);obtain⟨fs,j1,j2,V,j4⟩:=C.pair;have I:∀t,(eqGuard t j x y (.agg g.toArray)<|.agg i.toArray).run P w=.ok () w:=λt=>run_eqGuard_agg w t j x y _ _ V;rcases qB A with ⟨rfl,rfl⟩|⟨rfl,rfl⟩
    .refine⟨.bool c,?_,gb _⟩;show(gr .eql j x y (.agg _)<|.agg _).run P w=_
     simp only[gr,Sem.run_bind,I,Result.andThen_ok];have l:(Op.equalIn 10000 j (.agg g.toArray)<|.agg i.toArray).run P w=.ok c w:=H;rw[run_eql_struct,l];rfl
    .refine⟨.bool<|nt c,?_,gb _⟩;show(gr .neq j x y (.agg _)<|.agg _).run P w=_
     simp only[gr,Sem.run_bind,I,Result.andThen_ok];have l:(Op.equalIn 10000 j (.agg g.toArray)<|.agg i.toArray).run P w=.ok c w:=H;rw[run_neq_struct,l];rfl
   .cases f
  .cases f
 ·
  rename_i nn ee O t2 y1;obtain⟨s,f⟩:=aw o;simp only[dF] at s;have C:=J.T _ _ (iH s.1);split at f
  .rename_i y2 e D A;obtain⟨Q,R⟩:=Ty.kz D;subst Q;subst R;split at f
   .rename_i c E;obtain rfl:=aE f;obtain⟨g,S,rfl⟩:=dY.1 F;obtain⟨i,U,rfl⟩:=dY.1 G;have H:=(B9 (P:=P) (γ:=γ) (w:=w)<|.arr nn ee).1 10000 j O _ g i c C S U E (by have:=CO s.2;omega);have V:=C.ahd;have I:∀t,(eqGuard t j x y (.agg g.toArray)<|.agg i.toArray).run P w=.ok () w:=λt=>run_eqGuard_agg w t j x y _ _ V;rcases qB A with ⟨rfl,rfl⟩|⟨rfl,rfl⟩
    .refine⟨.bool c,?_,gb _⟩;show(gr .eql j x y (.agg _)<|.agg _).run P w=_
     simp only[gr,Sem.run_bind,I,Result.andThen_ok];have l:(Op.equalIn 10000 j (.agg g.toArray)<|.agg i.toArray).run P w=.ok c w:=H;rw[run_eql_struct,l];rfl
    .refine⟨.bool<|nt c,?_,gb _⟩;show(gr .neq j x y (.agg _)<|.agg _).run P w=_
     simp only[gr,Sem.run_bind,I,Result.andThen_ok];have l:(Op.equalIn 10000 j (.agg g.toArray)<|.agg i.toArray).run P w=.ok c w:=H;rw[run_neq_struct,l];rfl
   .cases f
  .cases f
 ·
  obtain rfl:u=_:=by simpa [b5] using F
  obtain rfl:v=_:=by simpa [b5] using G
  split at o
  .rename_i e hp A;obtain rfl:=aE o;obtain⟨el,W⟩:=J.kT _ hp;have q:=wg (P:=P) (w:=w) (x:=x) (y:=y) W none none (.inl rfl);rcases qB A with ⟨rfl,rfl⟩|⟨rfl,rfl⟩
   .exact⟨_,q.1,gb _⟩
   .exact⟨_,q.2,gb _⟩
  .cases o
 .cases o
theorem jT{b c:Nat}(h:live σ b c=true):∃e,σ.mem b=some e/\e.aI=c:=by
 unfold live at h;split at h
 .rename_i e f;exact⟨e,f,eT h⟩
 .cases h
theorem ba{c:Nat->Option Box}{b e:Nat}{bx:Box}(g:c b=some bx)(i:bx.aI=e){K:Box->Prop}(h:mn c b e K):K bx:=by
 obtain⟨j,f,l,k⟩:=h;rw[g] at f;obtain rfl:=aE f;exact k i
theorem VF(m:eS P cx){D:BinOp}{n:TypeId}{x y:Operand}{u v:Value}{p q r:aK}(o:b5 γ σ.mem w p .val [u])(s:b5 γ σ.mem w q .val [v])
  (l:(abD σ (find cx.T n) (cK cx.kT n) D p q).run=some r):∃z,(gr D n x y u v).run P w=.ok z w/\b5 γ σ.mem w r .val [z]:=by
 unfold abD at l;split at l
 .rename_i b t p;obtain⟨h,c⟩:=aw l;simp only[dF] at h;obtain⟨E,i,f⟩:=jT h.1;obtain⟨j,A,_,g⟩:=ba i f o.2;obtain rfl:u=_:=by simpa using g
  obtain rfl:v=_:=by simpa [b5] using s
  obtain⟨F,k⟩:=m.kT _ h.2;have q:=wg (P:=P) (w:=w) (x:=x) (y:=y) k (some ⟨j,cL p,none⟩) none (.inr rfl);split at c
  .rename_i e C;obtain rfl:=aE c;rcases qB C with ⟨rfl,rfl⟩|⟨rfl,rfl⟩
   .exact⟨_,q.1,gb _⟩
   .exact⟨_,q.2,gb _⟩
  .cases c
 .rename_i b t p;obtain⟨h,c⟩:=aw l;simp only[dF] at h;obtain⟨E,i,f⟩:=jT h.1;obtain⟨j,A,_,g⟩:=ba i f s.2;obtain rfl:v=_:=by simpa using g
  obtain rfl:u=_:=by simpa [b5] using o
  obtain⟨F,k⟩:=m.kT _ h.2;have q:=wg (P:=P) (w:=w) (x:=x) (y:=y) k none (some ⟨j,cL p,none⟩) (.inl rfl);split at c
  .rename_i e C;obtain rfl:=aE c;rcases qB C with ⟨rfl,rfl⟩|⟨rfl,rfl⟩
   .exact⟨_,q.1,gb _⟩
   .exact⟨_,q.2,gb _⟩
  .cases c
 .exact Zc m o s l
theorem abS{e:UnOp}{u:Value}{p r:aK}(c:b5 γ σ.mem w p .val [u])(b:(un e p).run=some r):∃z,(Op.unary e u).run P w=.ok z w/\b5 γ σ.mem w r .val [z]:=by
 unfold un at b;split at b
 .obtain rfl:=yi c;obtain rfl:=aE b;exact⟨_,rfl,gb _⟩
 .obtain⟨rfl,f⟩:=sy c;obtain rfl:=aE b;exact⟨_,rfl,mkInt (fi _ _)⟩
 .obtain⟨rfl,f⟩:=sy c;obtain rfl:=aE b;rename_i k n;refine⟨_,?_,mkInt (fi _ _)⟩;cases g:k.signed<;>simp[Op.unary,Op.intBits,fC,g]
 .cases b
theorem abT(O:bu B γ σ.mem w){b:Nat}{n:Box}(Q:σ.mem b=some n){o q:Nat}(D:γ.loc b=some (o,q)){p:List CU}{v:aK}(h:(Y4 n.buf p n.val).run=some v) :
  ∃c tid m,w.heap[o]?=some (.cells c tid m)/\lU c m/\cL p+da v<=c.size/\b5 γ σ.mem w v .cells ((c.toList.drop<|cL p).take<|da v):=by
 have f:=O.boxes b n Q;unfold cJ at f;unfold Y4 at h;cases j:n.buf with
 | false =>
   rw[j] at f h;obtain⟨r,t,c,tid,m,A,L,g,u,E⟩:=f;rw[D] at A;obtain⟨rfl,rfl⟩:=dz (aE A);obtain⟨F,C⟩:=vm E h;exact⟨c,tid,m,L,g,by simpa using F,C⟩
 | true =>
   rw[j] at f h;obtain⟨e,l,A,L,g⟩:=f;rw[A] at h;rcases g with ⟨g,_⟩|⟨r,t,c,tid,m,g,E,R,u,U,V,W,S⟩
   .rw[D] at g;cases g
   .rw[D] at g;obtain⟨rfl,rfl⟩:=dz (aE g);cases p with
    | nil=>cases h
    | cons s p =>
      cases s with
      | fD k off=>cases h
      | idx i size =>
        obtain⟨G,H⟩:=aw h;have y:=eT G;obtain⟨x,T,I⟩:=bX H;obtain⟨X,z⟩:=rO T;have M:=S _ x z;have J:=M.length;have hi:i.toNat<l.length:=(ix.1 z).1;have K:(i.toNat+1)*e.size<=q*e.size:=fN _ (by omega);rw[zQ] at K;obtain⟨F,C⟩:=vm (v:=.data e x) (show b5 γ σ.mem w (.data e x) .cells _ from M) I;rw[J] at F;refine⟨c,tid,m,E,R.th,?_,?_⟩
        .simp only[cL,y];omega
        .rw[XO,Kr,vZ,sw (by omega)] at C;simp only[cL,y];exact C
theorem xq{t:Ty}{i:TypeId}(n:Den P t i){b e:Nat}{x:t.den}{k:List Value}(l:bB w γ.I t x k)(f:(loadCells ⟨b,e,none⟩ k.length).run P w=.ok k.toArray w)
  (g:∀(j:Nat) v,k[j]?=some v->w.cell? ⟨b,e+j,none⟩=some v):(loadVar i ⟨b,e,none⟩).run P w=.ok (bW t k) w:=by
 unfold loadVar;rw[Sem.run_bind,n.agg w,Result.andThen_ok];have m:=l.length;cases h:t.isAgg with
 | true =>
   simp only[mh,Sem.run_bind,n.sizeOf w,Result.andThen_ok,<-m,f,Sem.run_pure,bW,h,eG]
 | false =>
   have o:=rQ h;rw[o] at m;obtain⟨c,rfl⟩:=XA.1 m;have:=g 0 c rfl;simp only[v7] at this;simp[bW,h,this]
theorem KO:∀{u:Ty} {v:aK},SU u v=true->da v=u.size:=by
 intro u;induction u with
 | pair a b f e =>
   intro v h;cases v with
   | data t x=>obtain rfl:=Ty.eq_of_beq (show Ty.beq t (.pair a b)=true from h);rfl
   | mix p q =>
     obtain⟨c,g⟩:=aa8.1 (show(Y5 a p&&SU b q)=true from h);have i:da p=a.size:=by
      unfold Y5 at c;split at c
      .rfl
      .rename_i t u x _;obtain rfl:=Ty.eq_of_beq c;rfl
      .cases c
     show da p+da q=a.size+b.size
     rw[i,e g]
   | _=>cases h
 | _ =>
   intro v h;cases v with
   | data t x=>obtain rfl:=Ty.eq_of_beq h;rfl
   | _=>cases h
theorem Zd{u:Ty}{v:aK}(b:Y5 u v=true):da v=u.size:=by
 unfold Y5 at b;split at b
 .rfl
 .rename_i t u x _;obtain rfl:=Ty.eq_of_beq b;rfl
 .cases b
theorem S4(s:eS P cx){t:TypeId}{x:Operand}(h:cQ B N γ σ a w)(z:(kU cx d t (cp σ x) σ).run=some aV) :
  ∃u m I,aV=σ.aS d u/\a.eval x=.pointer (some I)/\(loadVar t I).run P w=.ok m w/\b5 γ σ.mem w u .val [m]:=by
 have hv:=h.cp x;unfold kU at z;split at z
 .rename_i u y M;rw[M] at hv;obtain⟨L,A⟩:=aw z;obtain rfl:=aE A;have G:=s.T _ _ (iH L);obtain⟨J,off,cs,H,h2,h3⟩:=hv;obtain H:a.eval x=_:=by simpa using H
  have O:=xq (P:=P) G h2 (F4 h3) (λj v C=>(h3 j v C).1);exact⟨_,_,_,rfl,H,O,cs,h2,rfl⟩
 .rename_i b aI p M;rw[M] at hv;split at z
  .rename_i bx L;obtain⟨n,A⟩:=aw z;have n:=eT n;obtain⟨v,hn,Q⟩:=bind_some A;obtain⟨g,R⟩:=aw Q;obtain rfl:=aE R;obtain⟨J,cap,O,l⟩:=ba L n hv.2;obtain l:a.eval x=_:=by simpa using l
   obtain⟨K,tid,fr,g1,g2,g3,D⟩:=abT h.ok L O hn;have E:=BM (P:=P) g1 g3;have F:=D.length;have i:∀(j:Nat) S,((K.toList.drop<|cL p).take<|da v)[j]?=some S->w.cell? ⟨J,cL p+j,none⟩=some S:=λj S C=>by
    rw[cell_of_heap g1];rw[gm] at C;split at C
    .rw[l9] at C;simpa using C
    .cases C
   have single:∀(q:(isAgg t).run P w=.ok false w) (H:da v=1) (o:∀c,b5 γ σ.mem w v .cells [c]->b5 γ σ.mem w v .val [c]),
     ∃u m I,σ.aS d v=σ.aS d u/\a.eval x=.pointer (some I)/\(loadVar t I).run P w=.ok m w/\b5 γ σ.mem w u .val [m]:=by
    intro q H o;rw[H] at F D i;obtain⟨c,U⟩:=XA.1 F;rw[U] at D i;have:=i 0 c rfl;simp only[v7] at this;refine⟨_,c,_,rfl,l,?_,o c D⟩;simp[loadVar,q,this]
   cases v with
   | mix V q' =>
     rw[show wa cx t (.mix V q')=false from rfl,B6] at g;simp only[x9] at g;split at g
     .rename_i u W;have G:=s.T _ _ W;have X:=KO g;have Y:Ty.isAgg u=true:=by
       cases u with
       | pair a b=>rfl
       | _=>cases g
      refine⟨_,.agg ((K.toList.drop<|cL p).take<|da<|.mix V q').toArray,_,rfl,l,?_,?_⟩
      .rw[X] at E⊢;simp only[loadVar,Sem.run_bind,G.agg w,Y,Result.andThen_ok,mh,G.sizeOf w,E,Sem.run_pure]
      .obtain⟨c1,c2,e1,e2,e3⟩:=D;exact⟨c1,c2,by rw[e1],e2,e3⟩
     .cases g
   | data u y =>
     rw[show x9 cx t (.data u y)=false from rfl,XQ] at g;have G:=s.T _ _ (iH g);have Z:=xq (P:=P) G D (by rw[F];exact E) i;exact⟨_,_,_,rfl,l,Z,_,D,rfl⟩
   | whole b' r =>
     rw[show x9 cx t (.whole b' r)=false from rfl,XQ] at g;simp only[wa] at g;split at g
     .rename_i e W;exact single (by have:=(s.T _ _ W).agg w;exact this) rfl (λc k=>k)
     .cases g
   | ptr b' r V=>exact single ((s.qx _<|by simpa [x9,wa] using g).1 w) rfl (λc k=>k)
   | dK=>exact single ((s.qx _<|by simpa [x9,wa] using g).1 w) rfl (λc k=>k)
   | fn f ag8=>exact single ((s.qx _<|by simpa [x9,wa] using g).1 w) rfl (λc k=>k)
   | _=>cases g
  .cases z
 .cases z
theorem KP(c:eS P cx){b:TypeId}{x:Operand}(h:cQ B N γ σ a w)(e:∀k,d=some k->k<N)(f:(kU cx d b (cp σ x) σ).run=some aV) :
  mb P B N γ σ a w d (Instr.loadAt b<|a.eval x) aV:=by
 obtain⟨u,g,m,rfl,i,j,l⟩:=S4 c h f;refine bD h e ?_ l;rw[i];simp only[Instr.loadAt,Instr.sureAddr,Sem.run_bind,Sem.run_pure,Result.andThen_ok,j]
end
end Go.Ge
namespace Go.Ge
open RowKit
section
variable {P:Program} {B:qA} {N:Nat} {γ:Gh} {σ aV:St} {a:Act} {w:World} {d:Option Nat} {cx:Ctx}
theorem HK{s:TypeId}{e:Array Field}{k:Nat}{f:Field}{u:Ty}(h:P.underlying s=some (.struct e))(i:e.toList[k]?=some f)(j:Den P u f.type)(m:0<u.size)(b c:Nat) :
  (Instr.fieldAt s (.pointer<|some ⟨b,c,none⟩) k).run P w=.ok (.pointer<|some ⟨b,c+f.offset,none⟩) w:=by
 have g:e[k]?=some f:=by simpa using i
 have l:¬(u.size=0):=by omega
 simp only[Instr.fieldAt,Sem.run_bind,run_underlying h,Result.andThen_ok,g,Instr.sureAddr,Sem.run_pure,fieldPlace,j.sizeOf w,bb l,addr_add]
theorem Qx{s:TypeId}{e:Array Field}{k:Nat}{f:Field}{i:TypeInfo}(j:P.underlying s=some (.struct e))(l:e.toList[k]?=some f)(m:P.info? f.type=some i)(o:0<i.size)(b c:Nat) :
  (Instr.fieldAt s (.pointer<|some ⟨b,c,none⟩) k).run P w=.ok (.pointer<|some ⟨b,c+f.offset,none⟩) w:=by
 have g:e[k]?=some f:=by simpa using l
 have n:¬(i.size=0):=by omega
 have h:(Go.sizeOf f.type).run P w=.ok i.size w:=by simp[Go.sizeOf,typeInfo,m]
 simp only[Instr.fieldAt,Sem.run_bind,run_underlying j,Result.andThen_ok,g,Instr.sureAddr,Sem.run_pure,fieldPlace,h,bb n,addr_add]
theorem C0{t:Ty}{s:TypeId}(g:Den P t s){k:Nat}{u:Ty}{o:Nat}(e:rM t k=some u)(h:jr t k=some o) :
  ∃(c:Array Field) (f:Field),P.underlying s=some (.struct c)/\c.toList[k]?=some f/\f.offset=o/\Den P u f.type/\0<u.size:=by
 cases t with
 | pair a b =>
   obtain⟨c,i,j,_⟩:=g.pair;obtain⟨f,l,p,m,n⟩:=j.at e h;exact⟨c,f,i,l,by omega,m,n⟩
 | _=>cases k<;>cases e
theorem BN(H:eS P cx){s:TypeId}{x:Operand}{k:Nat}(h:cQ B N γ σ a w)(I:∀k,d=some k->k<N)(r:(eU cx d s (cp σ x) k σ).run=some aV) :
  mb P B N γ σ a w d (Instr.fieldAt s (a.eval x) k) aV:=by
 have hv:=h.cp x;unfold eU at r;split at r
 .rename_i u y J;rw[J] at hv;obtain⟨K,c⟩:=aw r;have S:=H.T _ _ (iH K);split at c
  .rename_i o t z U;obtain rfl:=aE c;obtain⟨g,l,V,L,W,X⟩:=hv;obtain L:a.eval x=_:=by simpa using L
   obtain⟨t',z',Y,Z,e3,e4,e5⟩:=CY (w:=w) W (show oD u y k=some (o,.data t z) from U);cases Y;obtain⟨Q,f,A,C,D,E,F⟩:=C0 S Z e3;refine bD h I (by rw[L];exact HK A C E F g l) ⟨g,l+f.offset,(V.drop o).take t.size,rfl,e5,λj v G=>?_⟩;rw[gm] at G;split at G
   .rw[l9] at G;have:=X _ v G;rw[D,x8];exact this
   .cases G
  .cases c
 .rename_i b aI p J;rw[J] at hv;obtain⟨K,c⟩:=aw r;obtain⟨R,m,n⟩:=jT K;split at c
  .rename_i t hT;split at c
   .rename_i l u M hu;obtain rfl:=aE c;obtain⟨g,q,O,e⟩:=ba m n hv.2;obtain e:a.eval x=_:=by simpa using e
    obtain⟨Q,f,A,C,D,E,F⟩:=C0 (H.T _ _ hT) hu M;refine bD h I (by rw[e];exact HK A C E F g (cL p)) ⟨⟨_,rfl,rfl⟩,R,m,by omega,λ_=>⟨g,q,O,?_⟩⟩;rw[zY,D];simp[cL]
   .cases c
  .split at c
   .rename_i Q hO;split at c
    .rename_i l M;obtain rfl:=aE c;obtain⟨g,q,O,e⟩:=ba m n hv.2;obtain e:a.eval x=_:=by simpa using e
     obtain⟨gs,f,i,A,C,D,E,F⟩:=ad7 (H.sx _ _ hO) M;refine bD h I (by rw[e];exact Qx A C E F g (cL p)) ⟨⟨_,rfl,rfl⟩,R,m,by omega,λ_=>⟨g,q,O,?_⟩⟩;rw[zY,D];simp[cL]
    .cases c
   .cases c
 .cases r
theorem S5(l:eS P cx){g:TypeId}{k o:Nat}{u:Ty}{y:u.den}{v:aK}{b:Value}(m:find cx.T g=some u)(n:b5 γ σ.mem w (.data u y) .val [b])(p:mi (.data u y) k=some (o,v)) :
  ∃z,(Instr.field g b k).run P w=.ok z w/\b5 γ σ.mem w v .val [z]:=by
 have q:=l.T _ _ m;obtain⟨cs,r,rfl⟩:=dY.1 n;obtain⟨h,G,rfl,i,s,t,x⟩:=CY (w:=w) r p;obtain⟨A,f,C,D,j,E,H⟩:=C0 q i s;have c:u.isAgg=true:=by cases u<;>first|rfl|(cases k<;>cases i)
 refine⟨bW h<|(cs.drop o).take h.size,?_,_,x,rfl⟩;have e:A[k]?=some f:=by simpa using D
 have F:=Bk (P:=P) (w:=w) E (cs:=cs.toArray) (off:=f.offset) (by rw[j];simpa using t) rQ;simp only[bW,c,eG,Instr.field,Sem.run_bind,run_underlying C,Result.andThen_ok,e,asAgg,Sem.run_pure,F];rw[j]
theorem mo{t b:TypeId}{h:Nat}(j:P.underlying t=some (.slice b))(l:(Go.sizeOf b).run P w=.ok h w)(c e f g:Nat)(k:IntKind){i:Int}(m:0<=i)(n:i<f) :
  (Instr.indexAt t (.slice (some ⟨c,e,none⟩) f g)<|.int k i).run P w=.ok (.pointer<|some ⟨c,e+i.toNat*h,none⟩) w:=by
 simp only[Instr.indexAt,asIntOf,Sem.run_bind,Sem.run_pure,Result.andThen_ok,run_underlying j,Ks,m,n,mh,l,addr_add]
theorem zb{t b:TypeId}{f n:Nat}(g:P.underlying t=some (.array n b))(h:(Go.sizeOf b).run P w=.ok f w)(c e:Nat)(k:IntKind){i:Int}(j:0<=i)(l:i<n) :
  (Instr.indexAt t (.pointer<|some ⟨c,e,none⟩)<|.int k i).run P w=.ok (.pointer<|some ⟨c,e+i.toNat*f,none⟩) w:=by
 simp only[Instr.indexAt,asIntOf,Sem.run_bind,Sem.run_pure,Result.andThen_ok,run_underlying g,Instr.sureAddr,Ks,j,l,mh,h,addr_add]
theorem zZ{i n:Int}(h:within i n=true):0<=i/\i<n:=by
 simp only[within,dF,nI] at h;exact h
theorem iS{i j n:Int}(h:inside i j n=true):0<=i/\i<=j/\j<=n:=by
 simp only[inside,dF,nI] at h;exact⟨h.1.1,h.1.2,h.2⟩
theorem Em{b i:Nat}{e:Ty}{n:Int}(h:yb σ b i=some (e,n)):∃(j:Box) (k:Nat),σ.mem b=some j/\j.aI=i/\j.row=some (e,k)/\n=k:=by
 unfold yb at h;split at h
 .rename_i j m;cases c:Nat.beq j.aI i with
  | false=>rw[c] at h;cases h
  | true =>
    rw[c] at h;simp only[eG] at h;split at h
    .rename_i o l f g;obtain⟨rfl,rfl⟩:=dz (aE h);exact⟨j,_,m,eT c,by rw[Box.row,f,g],rfl⟩
    .rename_i p o l f g;obtain⟨rfl,rfl⟩:=dz (aE h);exact⟨j,_,m,eT c,by rw[Box.row,f,g],rfl⟩
    .cases h
 .cases h
theorem Box.df{bx:Box}{e:Ty}{l:List e.den}(b:bx.buf=true)(c:bx.val=.data (.slice e) l):bx.row=some (e,l.length):=by rw[Box.row,b,c]
theorem Box.pD{bx:Box}{e:Ty}{n:Nat}{l:(Ty.arr n e).den}(b:bx.buf=false)(c:bx.val=.data (.arr n e) l):bx.row=some (e,n):=by rw[Box.row,b,c]
theorem yj(c:eS P cx){t e:Nat}(h:Pc cx t=some e):P.underlying t=some (.slice e)/\cK cx.qx e=true:=by
 unfold Pc at h;split at h
 .cases h
 .split at h
  .rename_i u f;cases b:cK cx.qx u with
   | false=>rw[b] at h;cases h
   | true =>
     rw[b] at h;obtain rfl:=aE h;exact⟨c.XW _ _ f,b⟩
  .cases h
theorem VG{b c:Nat}{i:Int}:∀{m k:Nat},(Kw d b c σ i m k).run=some aV->∃j:Nat,k<=j/\j<k+m/\i=j/\aV=σ.aS d (.ptr b c [.fD j j]):=by
 intro m;induction m with
 | zero=>intro k f;cases f
 | succ m g =>
   intro k f;have e:=fP f;cases hi:aL i k with
   | true =>
     rw[hi] at e;obtain rfl:=aE e;exact⟨k,cD _,by omega,by simpa [aL] using hi,rfl⟩
   | false =>
     rw[hi] at e;obtain⟨j,n,o,h,l⟩:=g e;exact⟨j,by omega,by omega,h,l⟩
theorem HL{q:List CU}(h:JJ q=true):cL q=0:=by
 unfold JJ at h;split at h
 .simp[cL,eT h]
 .cases h
theorem sW(U:eS P cx){ty:TypeId}{x:Operand}{V:IntKind}{i:Int}(h:cQ B N γ σ a w)(Z:∀k,d=some k->k<N)(C:(ev cx d ty (cp σ x) i σ).run=some aV) :
  mb P B N γ σ a w d (Instr.indexAt ty (a.eval x)<|.int V i) aV:=by
 have hv:=h.cp x;unfold ev at C;split at C
 .rename_i u e l K G;rw[G] at hv;obtain⟨D,o⟩:=aw C;obtain rfl:=Ty.eq_of_beq D;obtain⟨y,hy,z⟩:=bX o;obtain rfl:=aE z;obtain⟨L,H⟩:=rO hy;obtain⟨M,I,J,k3,k4⟩:=(U.T _ _ K).slice;obtain⟨cs,E,t⟩:=dY.1 hv;have hi:i.toNat<List.length (α:=u.den) l:=(ix.1 H).1;rcases E with ⟨_,E⟩|⟨f,F,r,E,h2,h3,h4⟩
  .exfalso;have:List.length (α:=u.den) l=0:=by rw[show l=([]:List u.den) from E];rfl
   omega
  .rw[E] at t;have W:a.eval x=.slice (some ⟨f,F,none⟩) (List.length (α:=u.den) l) r:=t;obtain⟨es,g1,R,O⟩:=h4 _ y H;refine bD h Z (by rw[W];exact mo I (J.sizeOf w) f F _ r V L (by omega)) ⟨f,F+i.toNat*u.size,es,rfl,O,λj v Q=>?_⟩;exact R j v Q
 .rename_i m u n e l K G;rw[G] at hv;obtain⟨D,o⟩:=aw C;simp only[dF] at D;obtain rfl:=Ty.eq_of_beq D.1;obtain rfl:=eT D.2;obtain⟨y,hy,z⟩:=bX o;obtain rfl:=aE z;obtain⟨L,H⟩:=rO hy;obtain⟨M,I,J,k3⟩:=(U.T _ _ K).arr;obtain⟨f,F,cs,E,h2,h3⟩:=hv;obtain E:a.eval x=_:=by simpa using E
  have hi:i.toNat<m:=by have:=(ix.1 H).1;have:=h2.1;omega
  have hr4:=h2.2.2 _ y H;refine bD h Z (by rw[E];exact zb I (J.sizeOf w) f F V L (by omega)) ⟨f,F+i.toNat*u.size,_,rfl,hr4,λj v Q=>?_⟩;rw[gm] at Q;split at Q
  .rw[l9] at Q;have:=h3 _ v Q;rw[x8];exact this
  .cases Q
 .rename_i u b X K G;rw[G] at hv;split at C
  .rename_i e n he;obtain⟨D,o⟩:=aw C;obtain rfl:=Ty.eq_of_beq D;obtain⟨hw,z⟩:=ck o;obtain rfl:=aE z;obtain⟨L,E⟩:=zZ hw;obtain⟨S,k,g,s,A,rfl⟩:=Em he;obtain⟨M,I,J,k3,k4⟩:=(U.T _ _ K).slice;obtain⟨e',n',g1,R,O⟩:=ba g s hv.2;rw[A] at R;obtain⟨rfl,rfl⟩:=dz (aE R);rcases O with ⟨O,g4⟩|⟨f,r,O,g4⟩
   .exfalso;have hat:=h.ok.boxes b S g;rw[cJ,g1] at hat;obtain⟨e2,l,j1,j2,j3⟩:=hat;rcases j3 with ⟨_,j4⟩|⟨_,_,_,_,_,j3,_⟩
    .rw[Box.df g1 j1,j4] at A;have:0=k:=by
      have:=(dz<|aE A).2;simpa using this
     omega
    .rw[O] at j3;cases j3
   .obtain g4:a.eval x=_:=by simpa using g4
    refine bD h Z (by rw[g4];exact mo I (J.sizeOf w) f 0 _ r V L E) ⟨⟨_,rfl,rfl⟩,S,g,by omega,λ_=>⟨f,r,O,by simp[cL]⟩⟩
  .cases C
 .rename_i u b X lo n K G;rw[G] at hv;split at C
  .rename_i e n2 he;obtain⟨D,o⟩:=aw C;obtain rfl:=Ty.eq_of_beq D;obtain⟨hw,z⟩:=ck o;obtain rfl:=aE z;obtain⟨L,E⟩:=zZ hw;obtain⟨S,k,g,s,A,rfl⟩:=Em he;obtain⟨M,I,J,k3,k4⟩:=(U.T _ _ K).slice;obtain⟨e',n',R,O,g4,g5,base,r,g6,Y,g8,gF,g9⟩:=ba g s hv.2;rw[A] at R;obtain⟨rfl,rfl⟩:=dz (aE R);rcases g9 with g9|⟨f,c,g9,g10⟩
   .omega
   .obtain g6:a.eval x=_:=by simpa using g6
    refine bD h Z (by rw[g6,g10];exact mo I (J.sizeOf w) f _ _ r V L (by omega)) ⟨⟨_,rfl,rfl⟩,S,g,by omega,λ_=>⟨f,c,g9,?_⟩⟩;have:(plus lo i).toNat=lo.toNat+i.toNat:=by simp only[plus];omega
    simp only[cL,this,gn,v7]
  .cases C
 .rename_i m u b X p K G;rw[G] at hv;obtain⟨D,o⟩:=aw C;obtain⟨S,g,s⟩:=jT D;obtain⟨hw,z⟩:=ck o;obtain rfl:=aE z;obtain⟨L,E⟩:=zZ hw;obtain⟨M,I,J,k3⟩:=(U.T _ _ K).arr;obtain⟨f,r,hl,t⟩:=ba g s hv.2;obtain t:a.eval x=_:=by simpa using t
  refine bD h Z (by rw[t];exact zb I (J.sizeOf w) f _ V L E) ⟨⟨_,rfl,rfl⟩,S,g,by omega,λ_=>⟨f,r,hl,?_⟩⟩;rw[zY];simp[cL]
 .rename_i b X q e0 k0 lo n K G;rw[G] at hv;split at C
  .rename_i e he;obtain⟨D,o⟩:=aw C;simp only[dF,nI] at D;obtain⟨⟨hq,rfl⟩,hl⟩:=D;obtain⟨S,g,s⟩:=jT hl;obtain⟨I,J⟩:=yj U he;obtain⟨j,_,Q,rfl,rfl⟩:=VG o;obtain⟨_,f,c,g1,R,O,g4,base,r,g5,g6,Y⟩:=ba g s hv.2;obtain g5:a.eval x=_:=by simpa using g5
   rcases Y with Y|Y
   .subst Y;simp at Q
   .rw[HL hq] at Y;have hj':((j:Nat):Int)<(n.toNat:Int):=by omega
    refine bD h Z (by rw[g5,Y];exact mo I ((U.qx _ J).2.1 w) f _ _ r V (by omega) hj') ⟨⟨_,rfl,rfl⟩,S,g,by omega,λ_=>⟨f,c,g1,?_⟩⟩;simp[cL]
  .cases C
 .cases C
theorem Iz(r:eS P cx){s:TypeId}{x:Operand}{t:IntKind}{i:Int}(h:cQ B N γ σ a w)(A:∀k,d=some k->k<N)(p:(lF cx d s (cp σ x) i σ).run=some aV) :
  mb P B N γ σ a w d (Instr.indexAt s (a.eval x)<|.int t i) aV:=by
 have hv:=h.cp x;unfold lF at p;split at p
 .rename_i b F q Q R S n e G H;rw[G] at hv;obtain⟨C,f⟩:=aw p;simp only[dF,nI] at C;obtain⟨⟨I,rfl⟩,J⟩:=C;obtain⟨K,l,m⟩:=jT J;obtain⟨L,M⟩:=yj r H;split at f
  .rename_i j;obtain⟨D,u⟩:=aw f;obtain rfl:=aE u;have D:=kx D;obtain⟨_,o,c,O,T,U,V,E,v,y,W,g⟩:=ba l m hv.2;obtain y:a.eval x=_:=by simpa using y
   rcases g with g|g
   .subst g;omega
   .rw[HL I] at g;have z:((j:Nat):Int)<(n.toNat:Int):=by omega
    show mb P B N γ σ a w d (Instr.indexAt s (a.eval x)<|.int t (j:Int)) _
    refine bD h A (by rw[y,g];exact mo L ((r.qx _ M).2.1 w) o _ _ v t (by omega) z) ⟨⟨_,rfl,rfl⟩,K,l,by omega,λ_=>⟨o,c,O,?_⟩⟩;simp[cL]
  .cases f
 .exact sW r h A p
theorem u8_in(b:UInt8):IntKind.u8.min<=u8 b/\u8 b<=IntKind.u8.max:=by
 have:=b.toNat_lt;have c:IntKind.u8.min=0:=by decide
 have e:IntKind.u8.max=255:=by decide
 simp only[u8,c,e];omega
theorem IA(G:eS P cx){o:TypeId}{x:Operand}{H:IntKind}{i:Int}(h:cQ B N γ σ a w)(I:∀k,d=some k->k<N)(j:(lG cx d o (cp σ x) i σ).run=some aV) :
  mb P B N γ σ a w d (Instr.index o (a.eval x)<|.int H i) aV:=by
 have hv:=h.cp x;unfold lG at j;split at j
 .rename_i s p q;rw[q] at hv;obtain⟨b,r,g⟩:=bX j;obtain rfl:=aE g;obtain⟨t,f⟩:=rO r;obtain⟨c,W⟩:=we hv;refine bD h I (x:=.int .u8 (u8 b)) ?_ (mkInt<|u8_in b);rw[c];have K:=(G.T _ _ p).str;have L:(⟨List.toArray<|show aq from s⟩:ByteArray)[i.toNat]?=some b:=by
   have:=(ix.1 f);obtain⟨M,O⟩:=this;have v:i.toNat<(⟨List.toArray<|show aq from s⟩:ByteArray).size:=M;rw[getElem?_pos (⟨List.toArray<|show aq from s⟩:ByteArray) i.toNat v];exact congrArg some O
  simp only[Instr.index,asIntOf,Sem.run_bind,Sem.run_pure,Result.andThen_ok,run_underlying K,t,mh,L];rfl
 .rename_i m u n e l p q;rw[q] at hv;obtain⟨z,A⟩:=aw j;simp only[dF] at z;obtain rfl:=Ty.eq_of_beq z.1;obtain rfl:=eT z.2;obtain⟨y,r,g⟩:=bX A;obtain rfl:=aE g;obtain⟨t,f⟩:=rO r;obtain⟨Q,R,J,X⟩:=(G.T _ _ p).arr;obtain⟨C,D,c⟩:=dY.1 hv;have hi:i.toNat<m:=by have:=(ix.1 f).1;have:=D.1;omega
  have E:=D.2.2 _ y f;have S:(i.toNat+1)*u.size<=m*u.size:=fN _ hi;rw[zQ] at S;have U:=D.2.1;have V:=Bk (P:=P) (w:=w) J (cs:=C.toArray) (off:=i.toNat*u.size) (by simp;omega) rQ;refine bD h I (x:=bW u ((C.drop<|i.toNat*u.size).take u.size)) ?_ ⟨_,E,rfl⟩;have F:i<(m:Int):=by omega
  rw[c];show(Instr.index o (.agg C.toArray)<|.int H i).run P w=_
  simp only[Instr.index,asIntOf,Sem.run_bind,Sem.run_pure,Result.andThen_ok,run_underlying R,t,F,Ks,mh,J.sizeOf w,V]
 .cases j
theorem sb0(b:Bool)(c e:Nat):(Instr.sliceBounds b c e none none none).run P w=.ok (0,c,e) w:=by simp[Instr.sliceBounds]
theorem sbh(b:Bool)(e c:Nat)(k:IntKind){y:Int}(f:0<=y)(g:y<=c):(Instr.sliceBounds b e c none (some<|.int k y) none).run P w=.ok (0,y.toNat,c) w:=by
 have c1:(0:Int)<=y/\y<=(c:Int):=⟨f,g⟩;simp only[Instr.sliceBounds,Instr.sliceBound,asIntOf,Sem.run_bind,Sem.run_pure,Result.andThen_ok,c1,Ks,mh]
theorem sbl(b:Bool)(c e:Nat)(k:IntKind){y:Int}(f:0<=y)(g:y<=c):(Instr.sliceBounds b c e (some<|.int k y) none none).run P w=.ok (y.toNat,c,e) w:=by
 have c1:(0:Int)<=y/\y<=(c:Int):=⟨f,g⟩;simp only[Instr.sliceBounds,Instr.sliceBound,asIntOf,Sem.run_bind,Sem.run_pure,Result.andThen_ok,c1,Ks,mh]
theorem aiK(b:Bool)(f c:Nat)(k g:IntKind){y e:Int}(h:0<=y)(j:y<=e)(i:e<=c):(Instr.sliceBounds b f c (some<|.int k y) (some<|.int g e) none).run P w=.ok (y.toNat,e.toNat,c) w:=by
 have c1:(0:Int)<=e/\e<=(c:Int):=⟨by omega,i⟩;have c2:(0:Int)<=y/\y<=((e.toNat:Nat):Int):=⟨h,by omega⟩;simp only[Instr.sliceBounds,Instr.sliceBound,asIntOf,Sem.run_bind,Sem.run_pure,Result.andThen_ok,c1,Ks,mh];simp only[c2,Ks,mh,Sem.run_pure,Result.andThen_ok]
theorem oE{s r:Option Operand}{n:Int}{i j:Int}(h:cQ B N γ σ a w)(g:bounds σ n s r=some (i,j))(b:Bool)(c f:Nat)(u:n=c)(A:c<=f)(v:0<=i)(x:i<=j)(F:j<=n) :
  (Instr.sliceBounds b c f (s.map a.eval) (r.map a.eval) none).run P w=.ok (i.toNat,j.toNat,f) w:=by
 have l:∀(o:Operand) k (m:Int),cp σ o=.data (.int k) m->a.eval o=.int k m:=λo k m e=>by
  have:=h.cp o;rw[e] at this;exact(sy this).1
 unfold bounds at g;cases s with
 | none =>
   cases r with
   | none =>
     obtain⟨rfl,rfl⟩:=dz (aE g);have:=sb0 (P:=P) (w:=w) b c f;rw[u];simpa using this
   | some o =>
     simp only at g;split at g
     .rename_i k y q;obtain⟨rfl,p⟩:=dz (aE g);have e:=l o k _ q;rw[show y=j from p] at e;simp only[FT,Option.map_none,e];exact sbh b c f k x (by omega)
     .cases g
 | some o =>
   cases r with
   | none =>
     simp only at g;split at g
     .rename_i k y q;obtain⟨p,rfl⟩:=dz (aE g);have e:=l o k _ q;rw[show y=i from p] at e;simp only[FT,Option.map_none,e];have:=sbl (P:=P) (w:=w) b c f k v (by omega);rw[u];simpa using this
     .cases g
   | some o2 =>
     simp only at g;split at g
     .rename_i k y z C q t;obtain⟨D,E⟩:=dz (aE g);have e:=l o k _ q;have p:=l o2 z _ t;rw[show y=i from D] at e;rw[show C=j from E] at p;simp only[FT,e,p];exact aiK b c f k z v x (by omega)
     .cases g
theorem S6(s:aq){i j:Int}(b:0<=i)(c:i<=j):(⟨s.toArray⟩:ByteArray).extract i.toNat j.toNat=⟨(sub s i<|minus j i).toArray⟩:=by
 have:(minus j i).toNat=j.toNat-i.toNat:=by simp only[minus];omega
 apply ByteArray.ext;rw[ByteArray.data_extract];apply SQ;simp[sub,this,List.extract_eq_take_drop]
theorem VH{α:Type}(s:List α)(i n:Int):(sub s i n).length<=s.length:=by
 simp only[sub,gM,ma];omega
theorem abU{I:Nat->Nat->Prop}{e:Ty}{l:List e.den}{c f g i j:Nat}(p:∀(k:Nat) (x:e.den),l[k]?=some x->∃m:List Value,m.length=e.size /\
   (∀(q:Nat) v,m[q]?=some v->w.cell? ⟨c,f+k*e.size+q,none⟩=some v/\I c (f+k*e.size+q))/\bB w I e x m) (z:i<=j) (A:j<=l.length) (C:l.length<=g) (D:g<=maxLen) (h:Option Addr)
  (r:h=some ⟨c,f+i*e.size,none⟩\/(i=g/\h=some ⟨c,f,none⟩)) :
  bB w I (.slice e) ((l.drop i).take<|j-i) [.slice h (j-i)<|g-i]:=by
 have hlen:((l.drop i).take<|j-i).length=j-i:=by simp;omega
 rcases r with rfl|⟨rfl,rfl⟩
 .refine .inr ⟨c,f+i*e.size,g-i,?_,?_,by omega,λk x n=>?_⟩
  .show [Value.slice _ (j-i) _]=[Value.slice _ (List.length (α:=e.den)<|(l.drop i).take<|j-i) _]
   rw[hlen]
  .show List.length (α:=e.den) ((l.drop i).take<|j-i)<=_
   rw[hlen];omega
  .have b:((l.drop i).take<|j-i)[k]?=some x:=n;rw[gm] at b;split at b
   .rw[l9] at b;obtain⟨m,s,t,u⟩:=p _ x b;refine⟨m,s,λq v y=>?_,u⟩;have:=t q v y;rw[gn,<-x8] at this;exact this
   .cases b
 .have o:j=i:=by omega
  subst o;refine .inr ⟨c,f,0,by simp,by simp,by omega,λk x n=>?_⟩;have b:((l.drop j).take<|j-j)[k]?=some x:=n;simp at b
theorem sub_eq{b:Type}(l:List b){i j:Int}(c:0<=i)(e:i<=j):sub l i (minus j i)=(l.drop i.toNat).take (j.toNat-i.toNat):=by
 have:(minus j i).toNat=j.toNat-i.toNat:=by simp only[minus];omega
 rw[sub,this]
theorem sub_zero{α:Type}(l:List α):sub l 0 (minus 0 0)=[]:=by simp[sub,minus]
theorem Ze{I:Nat->Nat->Prop}{e:Ty}{l:List e.den}{c f g:Nat}{i j:Int}(m:∀(k:Nat) (x:e.den),l[k]?=some x->∃h:List Value,h.length=e.size /\
   (∀(q:Nat) v,h[q]?=some v->w.cell? ⟨c,f+k*e.size+q,none⟩=some v/\I c (f+k*e.size+q))/\bB w I e x h) (n:0<=i) (o:i<=j) (t:j<=l.length) (p:l.length<=g) (r:g<=maxLen) (b:Option Addr)
  (s:b=some ⟨c,f+i.toNat*e.size,none⟩\/(i.toNat=g/\b=some ⟨c,f,none⟩)) :
  bB w I (.slice e) (sub l i<|minus j i) [.slice b (j.toNat-i.toNat)<|g-i.toNat]:=by
 rw[sub_eq l n o];exact abU (w:=w) m (by omega) (by omega) p r b s
theorem uk.sub{b:Option Addr}{c:Nat}(h:uk b c)(i s:Nat):uk (if c=i then b else b.map (·.add s)) (c-i):=by
 rcases h with rfl|⟨e,f,rfl⟩
 .exact .inl (by omega)
 .refine .inr ?_;split
  .exact⟨e,f,rfl⟩
  .exact⟨e,f+s,by rw[FT,addr_add]⟩
theorem Eg.sub{l:Box}{b:Nat}{g i:Int}{c:Option Addr}{f:Nat}(h:Eg γ l b g c f)(m:0<=g)(q:0<=i)(s:Nat) :
  Eg γ l b (plus g i) (if f=i.toNat then c else c.map (·.add (i.toNat*s))) (f-i.toNat):=by
 intro e n;have o:g=0:=by simp only[plus] at e;omega
 have p:i=0:=by simp only[plus] at e;omega
 subst o;subst p;rcases h rfl n with ⟨j,rfl,rfl⟩|⟨k,j,rfl⟩
 .exact .inl ⟨j,by simp,rfl⟩
 .refine .inr ⟨k,by simpa using j,?_⟩;split
  .rfl
  .simp[Addr.add]
theorem IB(hc:eS P cx){ty:TypeId}{x:Operand}{lo hi:Option Operand}(h:cQ B N γ σ a w)(hd:∀k,d=some k->k<N)(F:(lE cx d ty (cp σ x) lo hi σ).run=some aV) :
  mb P B N γ σ a w d (Instr.sliceAt ty (a.eval x) (lo.map a.eval) (hi.map a.eval) none) aV:=by
 have hv:=h.cp x;unfold lE at F;split at F
 ·
  rename_i s O Q;rw[Q] at hv;split at F
  .rename_i i j G;obtain⟨A,r⟩:=ck F;obtain rfl:=aE r;obtain⟨D,J,E⟩:=iS A;obtain⟨p,hl⟩:=we hv;have hu:=(hc.T _ _ O).str;have y:=oE (P:=P) h G false (List.length (α:=UInt8) s) (List.length (α:=UInt8) s) rfl (cD _) D J E;refine bD h hd (x:=.string ⟨(sub (α:=UInt8) s i<|minus j i).toArray⟩) ?_ (mkStr<|iz (VH (α:=UInt8) s _ _) hl);rw[p];have VE:(⟨List.toArray (α:=UInt8) s⟩:ByteArray).size=List.length (α:=UInt8) s:=rfl;simp only[Instr.sliceAt,Instr.slice,Sem.run_bind,run_underlying hu,Result.andThen_ok,VE,Option.isSome_none,Kn,sR];rw[y];simp only[Result.andThen_ok,Sem.run_pure];rw[S6 (show aq from s) D J]
  .cases F
 ·
  rename_i u e l O Q;rw[Q] at hv;obtain⟨t,o⟩:=aw F;obtain rfl:=Ty.eq_of_beq t;split at o
  .rename_i i j G;obtain⟨A,r⟩:=ck o;obtain rfl:=aE r;obtain⟨D,J,E⟩:=iS A;obtain⟨Z,U,V,k3,k4⟩:=(hc.T _ _ O).slice;obtain⟨cs,af3,p⟩:=dY.1 hv;have H:len (α:=u.den) l=(List.length (α:=u.den) l:Int):=rfl;rcases af3 with ⟨⟨K,e1⟩,e2⟩|⟨b,R,f,e1,e2,e3,e4⟩
   .have L:a.eval x=.slice K 0 0:=by rw[p,e1];rfl
    have M:List.length (α:=u.den) l=0:=by rw[show l=([]:List u.den) from e2];rfl
    rw[H,M] at E;have hi0:i=0:=by omega
    have hj0:j=0:=by omega
    subst hi0;subst hj0;have y:=oE (P:=P) h G true 0 0 (by rw[H,M]) (cD _) D J (by rw[H,M];exact E);refine bD h hd (x:=.slice K 0 0) ?_ ⟨_,.inl ⟨⟨K,rfl⟩,?_⟩,rfl⟩
    .rw[L];simp only[Instr.sliceAt,Instr.slice,Sem.run_bind,run_underlying U,Result.andThen_ok,y,V.sizeOf w,Sem.run_pure];rfl
    .exact sub_zero (α:=u.den) l
   .have L:a.eval x=.slice (some ⟨b,R,none⟩) (List.length (α:=u.den) l) f:=by rw[p,e1];rfl
    have y:=oE (P:=P) h G true (List.length (α:=u.den) l) f H e2 D J E;have hj:j.toNat<=List.length (α:=u.den) l:=by rw[H] at E;omega
    have ahf:=Ze (w:=w) (i:=i) (j:=j) e4 D J (by rw[H] at E;exact E) e2 e3;refine bD h hd (x:=.slice (if f=i.toNat then some ⟨b,R,none⟩ else some ⟨b,R+i.toNat*u.size,none⟩) (j.toNat-i.toNat) (f-i.toNat)) ?_
     ⟨_,ahf (if f=i.toNat then some ⟨b,R,none⟩ else some ⟨b,R+i.toNat*u.size,none⟩) (by
      split
      .rename_i v;exact .inr ⟨v.symm,rfl⟩
      .exact .inl rfl),rfl⟩
    rw[L];simp only[Instr.sliceAt,Instr.slice,Sem.run_bind,run_underlying U,Result.andThen_ok,y,V.sizeOf w,Sem.run_pure,FT,addr_add]
  .cases o
 ·
  rename_i u c aI lo' n O Q;rw[Q] at hv;split at F
  .rename_i W z;obtain⟨t,o⟩:=aw F;simp only[dF] at t;have C:=eT t.1;split at o
   .rename_i i j G;obtain⟨A,r⟩:=ck o;obtain rfl:=aE r;obtain⟨D,J,E⟩:=iS A;obtain⟨Z,U,V,k3,k4⟩:=(hc.T _ _ O).slice;obtain⟨e',k,g2,X,g4,g5,g,f,g6,g7,g8,gF,g9⟩:=ba z C hv.2;have hue:u=e':=by
     have:=t.2;rw[g2] at this;exact Ty.eq_of_beq this
    subst hue;obtain g6:a.eval x=_:=by simpa using g6
    have y:=oE (P:=P) h G true n.toNat f (by omega) g7 D J E;refine bD h hd (x:=.slice (if f=i.toNat then g else g.map (·.add (i.toNat*u.size))) (j.toNat-i.toNat) (f-i.toNat)) ?_
     ⟨⟨_,rfl,rfl⟩,W,z,by omega,λ_=>⟨u,k,g2,by simp only[plus];omega,by simp only[minus];omega,by simp only[plus,minus];omega,(if f=i.toNat then g else g.map (·.add (i.toNat*u.size))),f-i.toNat,?_,?_,?_,⟨gF.1.sub _ _,gF.2.sub X D _⟩,?_⟩⟩
    .rw[g6];simp only[Instr.sliceAt,Instr.slice,Sem.run_bind,run_underlying U,Result.andThen_ok,y,V.sizeOf w,Sem.run_pure]
    .have:(minus j i).toNat=j.toNat-i.toNat:=by simp only[minus];omega
     rw[this]
    .simp only[minus];omega
    .omega
    .rcases g9 with g9|⟨b,c',g9,g10⟩
     .exact .inl (by simp only[minus];omega)
     .by_cases v:f=i.toNat
      .exact .inl (by simp only[minus];omega)
      .refine .inr ⟨b,c',g9,?_⟩;rw[bb v,g10];have:(plus lo' i).toNat=lo'.toNat+i.toNat:=by simp only[plus];omega
       simp only[FT,addr_add,this,gn]
   .cases o
  .cases F
 ·
  rename_i u c aI O Q;rw[Q] at hv;split at F
  .rename_i W z;obtain⟨t,o⟩:=aw F;simp only[dF] at t;have C:=eT t.1;split at o
   .rename_i e l hbv;obtain⟨hue,r⟩:=aw o;obtain rfl:=Ty.eq_of_beq hue;obtain⟨Z,U,V,k3,k4⟩:=(hc.T _ _ O).slice;obtain⟨e',n',g1,g2,X⟩:=ba z C hv.2;have ahg:W.row=some (u,List.length (α:=u.den) l):=Box.df t.2 hbv;rw[ahg] at g2;obtain⟨rfl,rfl⟩:=dz (aE g2);have hat:=h.ok.boxes c W z;rw[cJ,g1] at hat;obtain⟨e2,l2,j1,j2,j3⟩:=hat;have ahh:∃g f,a.eval x=.slice g (List.length (α:=u.den) l) f/\List.length (α:=u.den) l<=f/\f<=maxLen/\(((f=0/\List.length (α:=u.den) l=0)/\γ.loc c=none/\g=none)\/∃b,γ.loc c=some (b,f)/\g=some ⟨b,0,none⟩):=by
     rw[hbv] at j1;cases j1;rcases X with ⟨X,g4⟩|⟨b,f,X,g4⟩
     .obtain g4:a.eval x=_:=by simpa using g4
      rcases j3 with ⟨_,j4⟩|⟨_,_,_,_,_,j3,_⟩
      .have M:List.length (α:=u.den) l=0:=by rw[j4];rfl
       exact⟨none,0,by rw[g4,M],by omega,pj _,.inl ⟨⟨rfl,M⟩,X,rfl⟩⟩
      .rw[X] at j3;cases j3
     .obtain g4:a.eval x=_:=by simpa using g4
      rcases j3 with ⟨j3,_⟩|⟨aea,aeb,cur,tid,fr,q1,Y,q3,aec,q4,q5,q6,q7⟩
      .rw[X] at j3;cases j3
      .rw[X] at q1;obtain⟨rfl,rfl⟩:=dz (aE q1);exact⟨_,f,g4,q4,q5,.inr ⟨b,X,rfl⟩⟩
    obtain⟨g,f,m1,m2,m3,m4⟩:=ahh;have hF:uk g f:=by
     rcases m4 with ⟨⟨Y,_⟩,_⟩|⟨b,q1,Y⟩
     .exact .inl Y
     .exact .inr ⟨b,0,Y⟩
    have hZ:Eg γ W c 0 g f:=λ_ _=>by
     rcases m4 with ⟨⟨Y,_⟩,q3,q4⟩|⟨b,q1,Y⟩
     .exact .inl ⟨q3,q4,Y⟩
     .exact .inr ⟨b,q1,Y⟩
    have I:∀{i j:Int},bounds σ (len (α:=u.den) l) lo hi=some (i,j)->0<=i->i<=j->j<=len (α:=u.den) l ->
      (Instr.sliceAt ty (a.eval x) (lo.map a.eval) (hi.map a.eval) none).run P w=.ok (.slice (if f=i.toNat then g else g.map (·.add (i.toNat*u.size))) (j.toNat-i.toNat)<|f-i.toNat) w:=by
     intro i j G D J E;have y:=oE (P:=P) h G true (List.length (α:=u.den) l) f rfl m2 D J E;rw[m1];simp only[Instr.sliceAt,Instr.slice,Sem.run_bind,run_underlying U,Result.andThen_ok,y,V.sizeOf w,Sem.run_pure]
    split at r
    .obtain rfl:=aE r;have:=I (i:=0) (j:=len (α:=u.den) l) rfl (by omega) (by simp only[len];omega) (by omega);have hjl:(len (α:=u.den) l).toNat=List.length (α:=u.den) l:=by simp[len]
     rw[hjl] at this;refine bD h hd (x:=a.eval x) ?_ hv;rw[this,m1]
     congr 1
     have:(g.map (·.add ((0:Int).toNat*u.size)))=g:=by cases g<;>simp[Addr.add]
     rw[this];simp
    .split at r
     .rename_i i j G;obtain⟨A,S⟩:=ck r;obtain rfl:=aE S;obtain⟨D,J,E⟩:=iS A;have H:len (α:=u.den) l=(List.length (α:=u.den) l:Int):=rfl;rw[H] at E;refine bD h hd (I G D J E)
       ⟨⟨_,rfl,rfl⟩,W,z,by omega,λ_=>⟨u,_,ahg,D,by simp only[minus];omega,by simp only[minus];omega,(if f=i.toNat then g else g.map (·.add (i.toNat*u.size))),f-i.toNat,?_,?_,?_,⟨hF.sub _ _,by have:=hZ.sub (DY 0) D u.size;rwa [show plus 0 i=i by simp[plus]] at this⟩,?_⟩⟩
      .have:(minus j i).toNat=j.toNat-i.toNat:=by simp only[minus];omega
       rw[this]
      .simp only[minus];omega
      .omega
      .by_cases v:f=i.toNat
       .exact .inl (by simp only[minus];omega)
       .rcases m4 with ⟨q1,q3⟩|⟨b,q1,Y⟩
        .exact .inl (by simp only[minus];omega)
        .refine .inr ⟨b,f,q1,?_⟩;rw[bb v,Y];simp only[FT,addr_add,pv]
     .cases r
   .cases o
  .cases F
 ·
  rename_i m u c aI s q O Q;rw[Q] at hv;obtain⟨hlm,o⟩:=aw F;simp only[dF] at hlm;obtain⟨W,z,C⟩:=jT hlm.1;have aiN:=CO hlm.2;split at o
  .rename_i i j G;obtain⟨A,S⟩:=ck o;obtain rfl:=aE S;obtain⟨D,J,E⟩:=iS A;obtain⟨Z,U,V,k3⟩:=(hc.T _ _ O).arr;obtain⟨b,f,hl,p⟩:=ba z C hv.2;obtain p:a.eval x=.pointer (some ⟨b,cL (s::q),none⟩):=by simpa using p
   have y:=oE (P:=P) h G false m m rfl (cD _) D J E;refine bD h hd (x:=.slice (some<|if m=i.toNat then⟨b,cL (s::q),none⟩ else(⟨b,cL (s::q),none⟩:Addr).add (i.toNat*u.size)) (j.toNat-i.toNat) (m-i.toNat)) ?_
    ⟨⟨_,rfl,rfl⟩,W,z,by omega,λ_=>⟨by simp,b,f,hl,D,by simp only[minus];omega,by simp only[minus];omega,some (if m=i.toNat then⟨b,cL (s::q),none⟩ else(⟨b,cL (s::q),none⟩:Addr).add (i.toNat*u.size)),m-i.toNat,?_,?_,?_⟩⟩
   .rw[p];simp only[Instr.sliceAt,Sem.run_bind,run_underlying U,Result.andThen_ok,Instr.sureAddr,Sem.run_pure,y,V.sizeOf w]
   .have:(minus j i).toNat=j.toNat-i.toNat:=by simp only[minus];omega
    rw[this]
   .simp only[minus];omega
   .by_cases v:m=i.toNat
    .exact .inl (by simp only[minus];omega)
    .refine .inr ?_;rw[bb v];simp only[addr_add]
  .cases o
 ·
  rename_i m u c aI O Q;rw[Q] at hv;split at F
  .rename_i W z;obtain⟨t,o⟩:=aw F;simp only[dF,kS] at t;have C:=eT t.1;split at o
   .rename_i n e l hbv;obtain⟨hq,r⟩:=aw o;simp only[dF] at hq;obtain rfl:=eT hq.1.1;obtain rfl:=Ty.eq_of_beq hq.1.2;have aiN:=CO hq.2;split at r
    .rename_i i j G;obtain⟨A,S⟩:=ck r;obtain rfl:=aE S;obtain⟨D,J,E⟩:=iS A;obtain⟨Z,U,V,k3⟩:=(hc.T _ _ O).arr;obtain⟨b,f,hl,p⟩:=ba z C hv.2;obtain p:a.eval x=.pointer (some ⟨b,0,none⟩):=by simpa [cL] using p
     have y:=oE (P:=P) h G false m m rfl (cD _) D J E;have hF:uk (some<|if m=i.toNat then⟨b,0,none⟩ else(⟨b,0,none⟩:Addr).add (i.toNat*u.size)) (m-i.toNat):=by
      refine .inr ?_;split
      .exact⟨b,0,rfl⟩
      .exact⟨b,0+i.toNat*u.size,by rw[addr_add]⟩
     refine bD h hd (x:=.slice (some<|if m=i.toNat then⟨b,0,none⟩ else(⟨b,0,none⟩:Addr).add (i.toNat*u.size)) (j.toNat-i.toNat) (m-i.toNat)) ?_
      ⟨⟨_,rfl,rfl⟩,W,z,by omega,λ_=>⟨u,m,Box.pD t.2 hbv,D,by simp only[minus];omega,by simp only[minus];omega,some (if m=i.toNat then⟨b,0,none⟩ else(⟨b,0,none⟩:Addr).add (i.toNat*u.size)),m-i.toNat,?_,?_,?_,⟨hF,λ_ G=>by rw[t.2] at G;cases G⟩,?_⟩⟩
     .rw[p];simp only[Instr.sliceAt,Sem.run_bind,run_underlying U,Result.andThen_ok,Instr.sureAddr,Sem.run_pure,y,V.sizeOf w]
     .have:(minus j i).toNat=j.toNat-i.toNat:=by simp only[minus];omega
      rw[this]
     .simp only[minus];omega
     .simp only[maxLen];omega
     .by_cases v:m=i.toNat
      .exact .inl (by simp only[minus];omega)
      .refine .inr ⟨b,f,hl,?_⟩;rw[bb v];simp only[addr_add,pv]
    .cases r
   .cases o
  .cases F
 .cases F
end
end Go.Ge
namespace Go.Ge
open RowKit
section
variable {P:Program} {B:qA} {N:Nat} {γ:Gh} {σ aV:St} {a:Act} {w:World} {d:Option Nat} {cx:Ctx}
theorem bB.flat{w q:World}{I I':Nat->Nat->Prop}:∀{t:Ty} {x:t.den} {cs:List Value},t.flat=true->bB w I t x cs->bB q I' t x cs:=by
 intro t;induction t with
 | int k=>intro x cs _ h;exact h
 | bool=>intro x cs _ h;exact h
 | str=>intro x cs _ h;exact h
 | slice e p=>intro x cs f;cases f
 | arr n e p=>intro x cs f h;exact⟨h.1,h.2.1,λi y s=>p f (h.2.2 i y s)⟩
 | pair a b g j =>
   intro x cs f h;simp only[Ty.flat,dF] at f;obtain⟨v,A,C,l,m⟩:=h;exact⟨v,A,C,g f.1 l,j f.2 m⟩
 | unit=>intro x cs _ h;exact h
 | alt u a r g o =>
   intro x cs f h;simp only[Ty.flat,dF] at f;rcases x with y|z
   .obtain⟨l,c,m,D⟩:=h;exact⟨l,c,m,g f.1 D⟩
   .exact o f.2 (show bB w I r z cs from h)
 | zH=>intro x cs _ h;exact h
def z6(w:World)(I:Nat->Nat->Prop)(e:Ty)(l:List e.den)(v:Value):Prop :=
 (l=[]/\∃f b,v=.slice f 0 b/\b<=maxLen/\uk f b) \/
 ∃g h b,v=.slice (some ⟨g,h,none⟩) l.length b/\l.length<=b/\b<=maxLen /\
  ∀(i:Nat) (x:e.den),l[i]?=some x->∃k:List Value,k.length=e.size /\
   (∀(j:Nat) c,k[j]?=some c->w.cell? ⟨g,h+i*e.size+j,none⟩=some c)/\bB w I e x k
theorem yk{I:Nat->Nat->Prop}{e:Ty}{l:List e.den}{f:Nat}{b:Array Value}{k:TypeId}{r:Nat×Nat}(s:w.heap[f]?=some (.cells b k r)){n:Nat}(u:n*e.size<=b.size)
  (h:∀(i:Nat) (x:e.den),l[i]?=some x->bB w I e x ((b.toList.drop<|i*e.size).take e.size)) (v:l.length<=n) (p:Nat) :
  ∀(i:Nat) (x:e.den),(l.drop p)[i]?=some x->∃m:List Value,m.length=e.size /\
   (∀(j:Nat) c,m[j]?=some c->w.cell? ⟨f,p*e.size+i*e.size+j,none⟩=some c)/\bB w I e x m:=by
 intro i x o;rw[l9] at o;have q:=h _ x o;have t:=(ix.1 o).1;refine⟨_,q.length,λj c g=>?_,q⟩;rw[cell_of_heap s];rw[gm] at g;split at g
 .rw[l9] at g;rw[<-gn];simpa using g
 .cases g
theorem cJ.row{b:Nat}{bx:Box}{s:Nat->Option Box}(h:cJ γ s w b bx){j f:Nat}(t:γ.loc b=some (j,f)) :
  (∀(e:Ty) (l:List e.den),bx.buf=true->bx.val=.data (.slice e) l->∃c tid g,w.heap[j]?=some (.cells c tid g)/\lU c g/\l.length<=f/\f<=maxLen/\c.size=f*e.size/\0<e.size /\
   ∀(i:Nat) (x:e.den),l[i]?=some x->bB w γ.I e x ((c.toList.drop<|i*e.size).take e.size)) /\
  (∀(n:Nat) (e:Ty) (l:List e.den),bx.buf=false->bx.val=.data (.arr n e) l->∃c tid g,w.heap[j]?=some (.cells c tid g)/\lU c g/\l.length=n/\c.size=n*e.size /\
   ∀(i:Nat) (x:e.den),l[i]?=some x->bB w γ.I e x ((c.toList.drop<|i*e.size).take e.size)):=by
 refine⟨λe l u v=>?_,λn e l u v=>?_⟩
 .rw[cJ,u] at h;obtain⟨K,L,A,C,q⟩:=h;rw[v] at A;cases A;rcases q with ⟨q,_⟩|⟨k,m,c,tid,g,o,y,z,p,r,D,E,F⟩
  .rw[t] at q;cases q
  .rw[t] at o;obtain⟨rfl,rfl⟩:=dz (aE o);exact⟨c,tid,g,y,z.th,r,D,E,C,F⟩
 .rw[cJ,u] at h;obtain⟨k,m,c,tid,g,o,y,z,p,r⟩:=h;rw[t] at o;obtain⟨rfl,rfl⟩:=dz (aE o);rw[v] at r;obtain⟨G,H,J⟩:=r;exact⟨c,tid,g,y,z,G,by simpa using H,J⟩
theorem En{u e:Ty}{l:List u.den}{m:List e.den}(h:toL u e l=some m):∃q:u=e,m=q▸l:=jP h
theorem mq{e:Ty}{v:aK}{l:List e.den}(f:fZ e σ v=some l) :
  v=.data (.slice e) l\/(v=.nJ/\l=[])\/(∃b c g,v=.whole b c/\σ.mem b=some g/\g.aI=c/\g.buf=true/\g.val=.data (.slice e) l) \/
  ∃b c o n g,v=.part b c o n/\σ.mem b=some g/\g.aI=c/\((g.buf=true/\∃j:List e.den,g.val=.data (.slice e) j/\l=sub j o n)\/(g.buf=false/\∃(k:Nat) (j:List e.den),g.val=.data (.arr k e) j/\l=sub j o n)):=by
 unfold fZ at f;split at f
 .obtain⟨q,rfl⟩:=En f;subst q;exact .inl rfl
 .exact .inr (.inl ⟨rfl,(aE f).symm⟩)
 .rename_i b c;split at f
  .rename_i g p;cases m:(Nat.beq g.aI c&&g.buf) with
   | false=>rw[m,iD] at f;exact absurd f (by simp)
   | true =>
     rw[m,eG] at f;simp only[dF] at m;split at f
     .rename_i u j h;obtain⟨q,rfl⟩:=En f;subst q;exact .inr (.inr<|.inl ⟨b,c,g,rfl,p,eT m.1,m.2,h⟩)
     .exact absurd f (by simp)
  .exact absurd f (by simp)
 .rename_i b c o n;split at f
  .rename_i g p;cases m:Nat.beq g.aI c with
   | false=>rw[m,iD] at f;exact absurd f (by simp)
   | true =>
     rw[m,eG] at f;split at f
     .rename_i u j i h;obtain⟨q,rfl⟩:=En f;subst q;exact .inr (.inr<|.inr ⟨b,c,o,n,g,rfl,p,eT m,.inl ⟨i,j,h,rfl⟩⟩)
     .rename_i r u j i h;obtain⟨q,rfl⟩:=En f;subst q;exact .inr (.inr<|.inr ⟨b,c,o,n,g,rfl,p,eT m,.inr ⟨i,r,j,h,rfl⟩⟩)
     .exact absurd f (by simp)
  .exact absurd f (by simp)
 .exact absurd f (by simp)
theorem JS{c:Type}{l:List c}{b n:Int}(e:0<=b)(f:0<=n)(g:b+n<=l.length):(sub l b n).length=n.toNat:=by
 simp only[sub,gM,ma];omega
theorem qC(Q:bu B γ σ.mem w){e:Ty}{v:aK}{val:Value}{l:List e.den}(R:b5 γ σ.mem w v .val [val])(hl:fZ e σ v=some l):z6 w γ.I e l val:=by
 rcases mq hl with rfl|⟨rfl,rfl⟩|⟨b,U,G,rfl,y,q,f,g⟩|⟨b,U,C,n,G,rfl,y,q,V⟩
 .obtain⟨cs,H,u⟩:=dY.1 R;rcases H with ⟨⟨p,H⟩,W⟩|⟨o,X,h,H,W,h3,h4⟩
  .exact .inl ⟨W,p,0,by rw[u,H];rfl,pj _,.inl rfl⟩
  .refine .inr ⟨o,X,h,by rw[u,H];rfl,W,h3,λi x z=>?_⟩;obtain⟨es,J,t,r⟩:=h4 i x z;exact⟨es,J,λj c hj=>(t j c hj).1,r⟩
 .obtain rfl:val=_:=by simpa [b5] using R
  exact .inl ⟨rfl,none,0,rfl,pj _,.inl rfl⟩
 .obtain⟨e',n',J,t,r⟩:=ba y q R.2;rw[Box.df J g] at t;obtain⟨rfl,rfl⟩:=dz (aE t);rcases r with ⟨r,D⟩|⟨o,h,r,D⟩
  .obtain rfl:val=_:=by simpa using D
   have K:=Q.boxes b G y;rw[cJ,J] at K;obtain⟨e2,l2,Y,j2,S⟩:=K;rw[g] at Y;cases Y;rcases S with ⟨_,j4⟩|⟨_,_,_,_,_,S,_⟩
   .exact .inl ⟨j4,none,0,rfl,pj _,.inl rfl⟩
   .rw[r] at S;exact absurd S (by simp)
  .obtain rfl:val=_:=by simpa using D
   obtain⟨L,tid,Z,M,q2,E,q4,q5,q6,O⟩:=((Q.boxes b G y).row r).1 _ l J g;refine .inr ⟨o,0,h,rfl,E,q4,λi x z=>?_⟩;have:=yk M (n:=h) (by omega) O E 0 i x z;rw[O9] at this;exact this
 .obtain⟨e',k,t,r,D,g5,p,h,g6,g7,T,gF,s⟩:=ba y q R.2;obtain rfl:val=_:=by simpa using g6
  rcases V with ⟨f,F,g,rfl⟩|⟨f,k0,F,g,rfl⟩
  .rw[Box.df f g] at t;obtain⟨rfl,rfl⟩:=dz (aE t);have hlen:=JS r D g5;rcases s with s|⟨o,c,s,A⟩
   .subst s;exact .inl ⟨by simp[sub],p,h,rfl,T,gF.1⟩
   .obtain⟨L,tid,Z,M,q2,E,q4,q5,q6,O⟩:=((Q.boxes b G y).row s).1 _ F f g;refine .inr ⟨o,C.toNat*e.size,h,by rw[A,hlen],by rw[hlen];exact g7,T,λi x z=>?_⟩;have m:((List.drop C.toNat F).take n.toNat)[i]?=some x:=z;rw[gm] at m;split at m
    .exact yk M (n:=c) (by omega) O E C.toNat i x m
    .exact absurd m (by simp)
  .rw[Box.pD f g] at t;obtain⟨rfl,rfl⟩:=dz (aE t);rcases s with s|⟨o,c,s,A⟩
   .subst s;exact .inl ⟨by simp[sub],p,h,rfl,T,gF.1⟩
   .obtain⟨L,tid,Z,M,q2,E,q5,O⟩:=((Q.boxes b G y).row s).2 _ _ F f g;have hlen:=JS (l:=F) r D (by rw[E];exact g5);refine .inr ⟨o,C.toNat*e.size,h,by rw[A,hlen],by rw[hlen];exact g7,T,λi x z=>?_⟩;have m:((List.drop C.toNat F).take n.toNat)[i]?=some x:=z;rw[gm] at m;split at m
    .exact yk M (n:=k0) (by omega) O (by omega) C.toNat i x m
    .exact absurd m (by simp)
theorem C1{I:Nat->Nat->Prop}{e:Ty}{blk:Nat}:∀{l:List e.den} {off:Nat},(∀(i:Nat) (x:e.den),l[i]?=some x->∃g:List Value,g.length=e.size /\
   (∀(j:Nat) c,g[j]?=some c->w.cell? ⟨blk,off+i*e.size+j,none⟩=some c)/\bB w I e x g) ->
  ∃b:List Value,b.length=l.length*e.size/\(∀(j:Nat) c,b[j]?=some c->w.cell? ⟨blk,off+j,none⟩=some c)/\(∀c∈b,c.oneCell'=true) /\
   ∀(i:Nat) (x:e.den),l[i]?=some x->bB w I e x ((b.drop<|i*e.size).take e.size):=by
 intro l;induction l with
 | nil=>intro off h;exact⟨[],by simp,by simp,by simp,by simp⟩
 | cons q r t =>
   intro off h;obtain⟨g,m,u,s⟩:=h 0 q rfl;obtain⟨b,v,y,z,A⟩:=t (off:=off+e.size) λi x n=>by
    obtain⟨o,C,D,E⟩:=h (i+1) x (by simpa using n);refine⟨o,C,λj c f=>?_,E⟩;have:=D j c f;rw[zQ] at this;rw[<-this];congr 2;omega
   refine⟨g++b,by rw[iP,m,v,dW,zQ];omega,λj c f=>?_,λc k=>?_,λi x n=>?_⟩
   .rw[Sz] at f;split at f
    .have:=u j c f;simpa using this
    .rename_i F;have:=y _ c f;rw[<-this];congr 2;omega
   .rcases sv.1 k with k|k
    .exact s.one c k
    .exact z c k
   .cases i with
    | zero =>
      obtain rfl:q=x:=by simpa using n
      rw[O9,CT,<-m,Kp];exact s
    | succ i =>
      have p:r[i]?=some x:=by simpa using n
      rw[zQ,XR,<-vZ,<-m,BL,m];exact A i x p
theorem Eo(h:cQ B N γ σ a w){b:Nat}{i:Box}{e:Ty}{n:Nat}(p:σ.mem b=some i)(m:i.row=some (e,n))(g:freeze σ b=some aV) :
  ∃bG,cQ B N bG aV a w/\Ext B γ σ.mem w bG aV.mem w/\bG.loc=γ.loc/\∀j k l,γ.loc b=some (j,k)->l<n*e.size->bG.I j l:=by
 obtain⟨m1,q⟩:=h.ok.freeze p m;have r:aV={ slots:=σ.slots,mem:=cB σ.mem b { i with ro:=true } }:=by
  unfold freeze at g;rw[p] at g;cases f:i.ro with
  | true =>
    simp only[f,eG,su] at g;subst g;have:cB σ.mem b { i with ro:=true }=σ.mem:=by
     funext c;by_cases e:c=b
     .subst e;rw[bk,p];congr 1;cases i;simp only at f;subst f;rfl
     .rw[aN _ e]
    rw[this]
  | false =>
    simp only[f,iD] at g;cases o:i.lk with
    | true=>simp[o] at g
    | false=>simp only[o,iD,su] at g;subst g;rfl
 subst r;exact⟨_,h.go q m1,q,rfl,λj k l s t=>.inr ⟨⟨k,s⟩,t⟩⟩
theorem z6.data{g:Gh}{e:Ty}{l:List e.den}{val:Value}(h:z6 w γ.I e l val)(r:∀b o,γ.I b o->g.I b o)
  (s:∀f off cap,val=.slice (some ⟨f,off,none⟩) l.length cap->∀j,j<l.length*e.size->g.I f (off+j)):bB w g.I (.slice e) l [val]:=by
 rcases h with ⟨rfl,base,cap,k,n,p⟩|⟨f,off,cap,k,n,p,t⟩
 .rcases p with rfl|⟨f,off,rfl⟩
  .exact .inl ⟨⟨base,by rw[k]⟩,rfl⟩
  .exact .inr ⟨f,off,cap,by rw[k];rfl,pj _,n,λi x m=>by cases m⟩
 .refine .inr ⟨f,off,cap,by rw[k],n,p,λi x m=>?_⟩;obtain⟨es,u,v,y⟩:=t i x m;have hi:i<l.length:=(ix.1 m).1;refine⟨es,u,λj c q=>⟨v j c q,?_⟩,bB.mono r (λ_ _ _=>rfl) y⟩;have z:j<e.size:=by have:=(ix.1 q).1;omega
  have:(i+1)*e.size<=l.length*e.size:=fN _ hi;rw[zQ] at this;rw[x8];exact s f off cap k _ (by omega)
theorem Ep(h:cQ B N γ σ a w){e:Ty}{v:aK}{i:Value}{l:List e.den}(D:b5 γ σ.mem w v .val [i])(V:fZ e σ v=some l)(H:gp σ v=some aV) :
  ∃bG,cQ B N bG aV a w/\Ext B γ σ.mem w bG aV.mem w/\bB w bG.I (.slice e) l [i]:=by
 have s:=qC h.ok D V;rcases mq V with rfl|⟨rfl,rfl⟩|⟨b,L,W,rfl,y,p,f,o⟩|⟨b,L,lo,n,W,rfl,y,p,M⟩
 .obtain rfl:=aE H;obtain⟨cs,X,g⟩:=dY.1 D;have:cs=[i]:=by
   obtain⟨c,rfl⟩:=XA.1 X.length;rw[g];rfl
  exact⟨γ,h,Ext.refl _ _ _ _,by rw[<-this];exact X⟩
 .obtain rfl:=aE H;obtain rfl:i=_:=by simpa [b5] using D
  exact⟨γ,h,Ext.refl _ _ _ _,.inl ⟨⟨none,rfl⟩,rfl⟩⟩
 .obtain⟨bG,O,E,s3,Q⟩:=Eo h y (Box.df f o) H;refine⟨bG,O,E,s.data E.I λF R S g j z=>?_⟩;obtain⟨Y,n',g1,A,x⟩:=ba y p D.2;rcases x with ⟨x,C⟩|⟨q,t,x,C⟩
  .obtain rfl:i=_:=by simpa using C
   injection g with m J K
   rw[<-J,O9] at z;omega
  .obtain rfl:i=_:=by simpa using C
   injection g with m J K
   injection m with m
   injection m with m T
   subst m;subst T;rw[pv];exact Q q t j x z
 .obtain⟨Y,k,A,x,C,Z,base,S,g6,g7,g8,gF,r⟩:=ba y p D.2;obtain rfl:i=_:=by simpa using g6
  have U:e=Y/\l.length=n.toNat:=by
   rcases M with ⟨f,l0,o,rfl⟩|⟨f,k0,l0,o,rfl⟩
   .rw[Box.df f o] at A;obtain⟨rfl,rfl⟩:=dz (aE A);exact⟨rfl,JS x C Z⟩
   .rw[Box.pD f o] at A;obtain⟨rfl,rfl⟩:=dz (aE A);rcases r with r|⟨F,c,r,G⟩
    .subst r;exact⟨rfl,by simp[sub]⟩
    .obtain⟨cur,tid,fr,m,J,K,q5,q7⟩:=((h.ok.boxes b W y).row r).2 _ _ l0 f o;exact⟨rfl,JS x C (by rw[K];exact Z)⟩
  obtain⟨rfl,u⟩:=U;obtain⟨bG,O,E,s3,Q⟩:=Eo h y A H;refine⟨bG,O,E,s.data E.I λF R t g j z=>?_⟩;rcases r with r|⟨q,c,r,G⟩
  .rw[u,r] at z;simp at z
  .injection g with m J K
   rw[G] at m;injection m with m
   injection m with m T
   subst m;subst T;refine Q q c _ r ?_;have:(lo.toNat+n.toNat)*e.size<=k*e.size:=fN _ (by omega);rw[gn] at this;rw[u] at z;omega
theorem Ca{e:Ty}{v:aK}{l:List e.den}{b:Nat}(h:fZ e σ v=some l)(k:freeze σ b=some aV):fZ e aV v=some l:=by
 have z:∀c j,σ.mem c=some j->∃r,aV.mem c=some { j with ro:=r }:=by
  intro c j q;unfold freeze at k;split at k
  .rename_i p t;cases m:p.ro with
   | true=>simp only[m,eG,su] at k;subst k;exact⟨j.ro,q⟩
   | false =>
     cases o:p.lk with
     | true=>simp[m,o] at k
     | false =>
       simp only[m,o,iD,su] at k;subst k;by_cases e:c=b
       .subst e;rw[t] at q;obtain rfl:=aE q;exact⟨true,by simp[St.bT,o]⟩
       .exact⟨j.ro,by simp[St.bT,iF e,q]⟩
  .cases k
 rcases mq h with rfl|⟨rfl,rfl⟩|⟨c,u,j,rfl,x,g,f,i⟩|⟨c,u,C,n,j,rfl,x,g,y⟩
 .exact h
 .rfl
 .obtain⟨r,s⟩:=z c j x;simp only[fZ,s,g,f,i,D1,Bool.and_self,eG];simp[toL,Ty.beq_refl]
 .obtain⟨r,s⟩:=z c j x;rcases y with ⟨f,A,i,rfl⟩|⟨f,D,A,i,rfl⟩
  .simp only[fZ,s,g,f,i,D1,eG];simp[toL,Ty.beq_refl]
  .simp only[fZ,s,g,f,i,D1,eG];simp[toL,Ty.beq_refl]
theorem Er{s r:Ty}{p q:aK}{x:(Ty.pair s r).den}(h:qg σ (.pair s r) (.mix p q)=some x):∃(y:s.den) (z:r.den),qg σ s p=some y/\qg σ r q=some z/\x=(y,z):=by
 replace h:(match qg σ s p,qg σ r q with
  | some x,some y=>some ((x,y):(Ty.pair s r).den)
  | _,_=>none)=some x:=h
 split at h
 .rename_i y z b c;exact⟨y,z,b,c,(aE h).symm⟩
 .exact absurd h (by simp)
theorem Pf{s r:Ty}{p q:aK}{y:s.den}{z:r.den}(b:qg σ s p=some y)(c:qg σ r q=some z):qg σ (.pair s r) (.mix p q)=some ((y,z):(Ty.pair s r).den):=by
 show(match qg σ s p,qg σ r q with
  | some x,some y=>some ((x,y):(Ty.pair s r).den)
  | _,_=>none)=some (y,z)
 rw[b,c]
theorem vn{p q:aK}(h:gp σ (.mix p q)=some aV):∃bA,gp σ p=some bA/\gp bA q=some aV:=by
 unfold gp at h;split at h
 .rename_i bA b;exact⟨bA,b,h⟩
 .exact absurd h (by simp)
theorem oS{t:Ty}:∀{x:t.den},qg σ t .rL=some x->(∀w I,bB w I t x [.nilIface])/\(∀τ:St,qg τ t .rL=some x)/\bW t [.nilIface]=.nilIface/\t.isAgg=false:=by
 induction t with
 | alt u a r g c =>
   intro x h;have h:(match qg σ r .rL with|some x=>some (Sum.inr x)|none=>none:Option (a.den⊕r.den))=some x:=h;cases f:qg σ r .rL with
   | none=>rw[f] at h;cases h
   | some y =>
     rw[f] at h;obtain rfl:=aE h;obtain⟨i,j,k,l⟩:=c f;refine⟨λw I=>i w I,λτ=>?_,k,l⟩;show(match qg τ r .rL with|some x=>some (Sum.inr x)|none=>none:Option (a.den⊕r.den))=_
     rw[j τ];rfl
 | zH=>intro x h;obtain rfl:()=x:=aE h;exact⟨λw I=>rfl,λτ=>rfl,rfl,rfl⟩
 | slice e=>intro x h;cases h
 | pair a b=>intro x h;cases h
 | _=>intro x h;cases h
theorem S7:∀{v:aK} {t:Ty} {x:t.den} {σ aV:St} {u:aK},qg σ t v=some x->gp σ u=some aV->qg aV t v=some x:=by
 have one:∀{u:aK} {e:Ty} {v:aK} {l:List e.den} {σ aV:St},fZ e σ v=some l->gp σ u=some aV->fZ e aV v=some l:=by
  intro u;induction u with
  | mix p q f g =>
    intro e v l σ aV h c;simp only[gp] at c;cases i:gp σ p with
    | none=>rw[i] at c;cases c
    | some bA=>rw[i] at c;exact g (f h i) c
  | whole b aI=>intro e v l σ aV h c;exact Ca h c
  | part b aI lo n=>intro e v l σ aV h c;exact Ca h c
  | _=>intro e v l σ aV h c;obtain rfl:=aE c;exact h
 intro v;induction v with
 | data u y =>
   intro t x σ aV u h c;cases t with
   | slice e=>exact one h c
   | _=>exact h
 | mix p q f g =>
   intro t x σ aV u h c;cases t with
   | pair s r =>
     obtain⟨y,z,j,k,rfl⟩:=Er h;exact Pf (f j c) (g k c)
   | slice e=>exact one h c
   | _=>cases h
 | rL=>intro t x σ aV u h c;exact(oS h).2.1 _
 | _ =>
   intro t x σ aV u h c;cases t with
   | slice e=>exact one h c
   | _=>cases h
theorem HM{f:Gh}{b:Nat->Option Box}{v:aK}{e:List Value}(h:b5 f b w v .cells e)(g:da v=1):∃c,e=[c]:=by
 have:=h.length;rw[g] at this;exact XA.1 this
theorem VI:∀{v:aK} {t:Ty} {x:t.den} {cs:List Value} {σ aV:St} {γ:Gh} {a:Act},cQ B N γ σ a w->b5 γ σ.mem w v .cells cs->qg σ t v=some x->gp σ v=some aV ->
  ∃bG,cQ B N bG aV a w/\Ext B γ σ.mem w bG aV.mem w/\bB w bG.I t x cs:=by
 have A:∀{v:aK} {e:Ty} {l:List e.den} {cs:List Value} {σ aV:St} {γ:Gh} {a:Act},da v=1->(∀c,b5 γ σ.mem w v .cells [c]->b5 γ σ.mem w v .val [c])->cQ B N γ σ a w->b5 γ σ.mem w v .cells cs->fZ e σ v=some l->gp σ v=some aV ->
   ∃bG,cQ B N bG aV a w/\Ext B γ σ.mem w bG aV.mem w/\bB w bG.I (.slice e) l cs:=by
  intro v e l cs σ aV γ a C m h i f j;obtain⟨c,rfl⟩:=HM i C;exact Ep h (m c i) f j
 intro v;induction v with
 | data u y =>
   intro t x cs σ aV γ a h i f j;obtain rfl:=aE j;have key:(∃q:u=t,x=q▸y):=by
    cases t with
    | slice e =>
      rcases mq (show fZ e σ (.data u y)=some x from f) with g|⟨g,_⟩|⟨_,_,_,g,_⟩|⟨_,_,_,_,_,g,_⟩
      .injection g with L M;subst L;exact⟨rfl,(eq_of_heq M).symm⟩
      .cases g
      .cases g
      .cases g
    | _=>exact Ty.kz f
   obtain⟨q,D⟩:=key;subst q;subst D;exact⟨γ,h,Ext.refl _ _ _ _,i⟩
 | mix p q E F =>
   intro t x cs σ aV γ a h i f j;cases t with
   | pair s r =>
     obtain⟨O,Q,rfl,C,R⟩:=i;obtain⟨y,z,S,D,rfl⟩:=Er f;obtain⟨bA,o,G⟩:=vn j;obtain⟨T,U,K,V⟩:=E h C S o;obtain⟨H,W,J,X⟩:=F U (R.ext K) (S7 D o) G;exact⟨H,W,K.trans J,O,Q,rfl,bB.mono J.I J.cells V,X⟩
   | slice e=>exact absurd f (by intro k;cases k)
   | _=>cases f
 | nJ =>
   intro t x cs σ aV γ a h i f j;cases t with
   | slice e=>exact A (v:=.nJ) rfl (λc k=>k) h i f j
   | _=>cases f
 | whole b aI =>
   intro t x cs σ aV γ a h i f j;cases t with
   | slice e=>exact A (v:=.whole b aI) rfl (λc k=>k) h i f j
   | _=>cases f
 | part b aI lo n =>
   intro t x cs σ aV γ a h i f j;cases t with
   | slice e=>exact A (v:=.part b aI lo n) rfl (λc k=>k) h i f j
   | _=>cases f
 | rL =>
   intro t x cs σ aV γ a h i f j;obtain rfl:=aE j;obtain rfl:cs=[.nilIface]:=i;exact⟨γ,h,Ext.refl ..,(oS f).1 _ _⟩
 | _ =>
   intro t x cs σ aV γ a h i f j;cases t with
   | slice e=>exact absurd f (by intro k;cases k)
   | _=>cases f
theorem mr{t:Ty}{x:t.den}{v:aK}{f:Value}(h:cQ B N γ σ a w)(g:b5 γ σ.mem w v .val [f])(i:xf σ t v=some (x,aV)) :
  ∃bG,cQ B N bG aV a w/\Ext B γ σ.mem w bG aV.mem w/\b5 bG aV.mem w (.data t x) .val [f]:=by
 unfold xf at i;split at i
 .rename_i u y;split at i
  .rename_i J D;obtain⟨rfl,rfl⟩:=dz (aE i);obtain⟨q,E⟩:=Ty.kz D;subst q;subst E;exact⟨γ,h,Ext.refl _ _ _ _,g⟩
  .cases i
 .split at i
  .rename_i y bA c o;obtain⟨rfl,rfl⟩:=dz (aE i);cases v with
   | data u F=>rename_i z;exact absurd rfl (z u F)
   | mix p q =>
     obtain⟨A,C,G,H,I⟩:=g;obtain rfl:f=_:=by simpa using G
     obtain⟨bG,j,l,m⟩:=VI h (show b5 γ σ.mem w (.mix p q) .cells (A++C) from⟨A,C,rfl,H,I⟩) c o;refine⟨bG,j,l,_,m,?_⟩;cases t with
     | pair s r=>rfl
     | slice e=>exact absurd c (by intro k;cases k)
     | _=>cases c
   | nJ =>
     cases t with
     | slice e=>obtain⟨bG,j,l,m⟩:=Ep h g c o;exact⟨bG,j,l,_,m,rfl⟩
     | _=>cases c
   | whole b aI =>
     cases t with
     | slice e=>obtain⟨bG,j,l,m⟩:=Ep h g c o;exact⟨bG,j,l,_,m,rfl⟩
     | _=>cases c
   | part b aI lo n =>
     cases t with
     | slice e=>obtain⟨bG,j,l,m⟩:=Ep h g c o;exact⟨bG,j,l,_,m,rfl⟩
     | _=>cases c
   | rL =>
     obtain rfl:=aE o;obtain g:[f]=[Value.nilIface]:=g;obtain rfl:f=.nilIface:=by simpa using g
     exact⟨γ,h,Ext.refl ..,[.nilIface],(oS c).1 _ _,by rw[(oS c).2.2.1]⟩
   | _ =>
     cases t with
     | slice e=>exact absurd c (by intro k;cases k)
     | _=>cases c
  .cases i
end
end Go.Ge
