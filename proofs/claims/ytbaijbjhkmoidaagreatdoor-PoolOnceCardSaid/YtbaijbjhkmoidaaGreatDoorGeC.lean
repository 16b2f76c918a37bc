/- A ghost interpreter of the model's code, and that it tells the truth: part 3. It says of a function of plain data what a call of it comes to. -/
import Derived.Test.YtbaijbjhkmoidaaGreatDoorGeB
set_option linter.unusedVariables false
set_option linter.unusedSimpArgs false
set_option linter.unusedSectionVars false
namespace Go.Ge
open RowKit
section
variable {P:Program} {B:Own} {N:Nat} {γ:Gh} {σ aB:St} {a:Act} {w:World} {d:Option Nat} {cx:Ctx}
theorem xf(b c:Bool){f:TypeId}{x y:Operand}(g:P.underlying f=some .bool) :
  (eE .eql f x y (.bool b)<|.bool c).run P w=.ok (.bool<|LO b c) w/\(eE .neq f x y (.bool b)<|.bool c).run P w=.ok (.bool<|nt<|LO b c) w:=by
 have e:=run_equalIn_bool' (P:=P) w 9999 f b c g;constructor<;>simp only[eE,eqGuard_at_bool,binOp,Op.equal,Op.maxDepth,Sem.run_bind,Sem.run_pure,Result.andThen_ok,e]<;>rfl
theorem CV{c e:TypeId}(f:P.underlying c=some (.pointer e))(a b:Option Addr)(h:a=none\/b=none)(n:Nat) :
  (Op.equalIn (n+1) c (.pointer a)<|.pointer b).run P w=.ok (a.isNone&&b.isNone) w:=by
 cases a with
 | none=>cases b<;>simp only[Op.equalIn,Sem.run_bind,run_underlying f,Result.andThen_ok]<;>rfl
 | some a=>cases b with
   | none=>simp only[Op.equalIn,Sem.run_bind,run_underlying f,Result.andThen_ok];rfl
   | some b=>simp at h
theorem nU{c e:TypeId}{x y:Operand}(f:P.underlying c=some (.pointer e))(a b:Option Addr)(h:a=none\/b=none) :
  (eE .eql c x y (.pointer a)<|.pointer b).run P w=.ok (.bool<|a.isNone&&b.isNone) w/\(eE .neq c x y (.pointer a)<|.pointer b).run P w=.ok (.bool<|!(a.isNone&&b.isNone)) w:=by
 have e:=CV (P:=P) (w:=w) f a b h 9999;constructor<;>simp only[eE,eqGuard_at_pointer,binOp,Op.equal,Op.maxDepth,Sem.run_bind,Sem.run_pure,Result.andThen_ok,e]
theorem Hu(J:df P cx){t:BinOp}{j:TypeId}{x y:Operand}{u v:Value}{p q r:ax}(F:bw γ σ.mem w p .val [u])(G:bw γ σ.mem w q .val [v])
  (o:(bin (find cx.T j) (bJ cx.iy j) t p q).run=some r):∃z,(eE t j x y u v).run P w=.ok z w/\bw γ σ.mem w r .val [z]:=by
 unfold bin at o;split at o
 ·
  obtain⟨rfl,K⟩:=lZ F;obtain⟨rfl,X⟩:=lZ G;split at o
  .rename_i left L;have f:=eh o;rename_i k n Y m _;cases M:cW m 0
   .rw[M] at f;obtain rfl:=aq f;exact CT K L M
   .rw[M] at f;cases f
  .rename_i L;obtain⟨s,f⟩:=ak o;rename_i k n Y m _;have Z:=oh s;subst Z;exact A5 K L f
 ·
  obtain⟨rfl,K⟩:=nT F;obtain⟨rfl,X⟩:=nT G;exact A6 o
 ·
  rename_i b c;obtain rfl:=pf F;obtain rfl:=pf G;obtain⟨s,f⟩:=ak o;have C:=J.T _ _ (fq s);have e:=xf (P:=P) (w:=w) b c (x:=x) (y:=y) C.bool;split at f
  .rename_i A;obtain rfl:=aq f;rcases kV A with ⟨rfl,_⟩|⟨_,h⟩
   .exact⟨.bool<|LO b c,e.1,eo _⟩
   .cases h
  .rename_i A;obtain rfl:=aq f;rcases kV A with ⟨_,h⟩|⟨rfl,_⟩
   .cases h
   .exact⟨.bool<|nt<|LO b c,e.2,eo _⟩
  .cases f
 ·
  rename_i ta tb O t2 y1;obtain⟨s,f⟩:=ak o;simp only[cA] at s;have C:=J.T _ _ (fq s.1);split at f
  .rename_i y2 e D A;obtain⟨Q,R⟩:=Ty.fZ D;subst Q;subst R;split at f
   .rename_i c E;obtain rfl:=aq f;obtain⟨g,S,rfl⟩:=cH.1 F;obtain⟨i,U,rfl⟩:=cH.1 G;have H:=(rG (P:=P) (γ:=γ) (w:=w)<|.pair ta tb).1 10000 j O _ g i c C S U E (by have:=rT s.2;omega);obtain⟨fs,j1,j2,V,j4⟩:=C.pair;have I:∀t,(eqGuard t j x y (.agg g.toArray)<|.agg i.toArray).run P w=.ok () w:=λt=>run_eqGuard_agg w t j x y _ _ V;rcases kV A with ⟨rfl,rfl⟩|⟨rfl,rfl⟩
    .refine⟨.bool c,?_,eo _⟩;show(eE .eql j x y (.agg _)<|.agg _).run P w=_
     simp only[eE,Sem.run_bind,I,Result.andThen_ok];have l:(Op.equalIn 10000 j (.agg g.toArray)<|.agg i.toArray).run P w=.ok c w:=H;rw[run_eql_struct,l];rfl
    .refine⟨.bool<|nt c,?_,eo _⟩;show(eE .neq j x y (.agg _)<|.agg _).run P w=_
     simp only[eE,Sem.run_bind,I,Result.andThen_ok];have l:(Op.equalIn 10000 j (.agg g.toArray)<|.agg i.toArray).run P w=.ok c w:=H;rw[run_neq_struct,l];rfl
   .cases f
  .cases f
 ·
  rename_i nn ee O t2 y1;obtain⟨s,f⟩:=ak o;simp only[cA] at s;have C:=J.T _ _ (fq s.1);split at f
  .rename_i y2 e D A;obtain⟨Q,R⟩:=Ty.fZ D;subst Q;subst R;split at f
   .rename_i c E;obtain rfl:=aq f;obtain⟨g,S,rfl⟩:=cH.1 F;obtain⟨i,U,rfl⟩:=cH.1 G;have H:=(rG (P:=P) (γ:=γ) (w:=w)<|.arr nn ee).1 10000 j O _ g i c C S U E (by have:=rT s.2;omega);have V:=C.OK;have I:∀t,(eqGuard t j x y (.agg g.toArray)<|.agg i.toArray).run P w=.ok () w:=λt=>run_eqGuard_agg w t j x y _ _ V;rcases kV A with ⟨rfl,rfl⟩|⟨rfl,rfl⟩
    .refine⟨.bool c,?_,eo _⟩;show(eE .eql j x y (.agg _)<|.agg _).run P w=_
     simp only[eE,Sem.run_bind,I,Result.andThen_ok];have l:(Op.equalIn 10000 j (.agg g.toArray)<|.agg i.toArray).run P w=.ok c w:=H;rw[run_eql_struct,l];rfl
    .refine⟨.bool<|nt c,?_,eo _⟩;show(eE .neq j x y (.agg _)<|.agg _).run P w=_
     simp only[eE,Sem.run_bind,I,Result.andThen_ok];have l:(Op.equalIn 10000 j (.agg g.toArray)<|.agg i.toArray).run P w=.ok c w:=H;rw[run_neq_struct,l];rfl
   .cases f
  .cases f
 ·
  obtain rfl:u=_:=by simpa [bw] using F
  obtain rfl:v=_:=by simpa [bw] using G
  split at o
  .rename_i e hp A;obtain rfl:=aq o;obtain⟨el,W⟩:=J.iy _ hp;have q:=nU (P:=P) (w:=w) (x:=x) (y:=y) W none none (.inl rfl);rcases kV A with ⟨rfl,rfl⟩|⟨rfl,rfl⟩
   .exact⟨_,q.1,eo _⟩
   .exact⟨_,q.2,eo _⟩
  .cases o
 .cases o
theorem gj{b c:Nat}(h:live σ b c=true):∃e,σ.mem b=some e/\e.au=c:=by
 unfold live at h;split at h
 .rename_i e f;exact⟨e,f,cG h⟩
 .cases h
theorem aC{c:Nat->Option aS}{b e:Nat}{bx:aS}(g:c b=some bx)(i:bx.au=e){K:aS->Prop}(h:gC c b e K):K bx:=by
 obtain⟨j,f,l,k⟩:=h;rw[g] at f;obtain rfl:=aq f;exact k i
theorem EE(m:df P cx){D:BinOp}{n:TypeId}{x y:Operand}{u v:Value}{p q r:ax}(o:bw γ σ.mem w p .val [u])(s:bw γ σ.mem w q .val [v])
  (l:(JD σ (find cx.T n) (bJ cx.iy n) D p q).run=some r):∃z,(eE D n x y u v).run P w=.ok z w/\bw γ σ.mem w r .val [z]:=by
 unfold JD at l;split at l
 .rename_i b t p;obtain⟨h,c⟩:=ak l;simp only[cA] at h;obtain⟨E,i,f⟩:=gj h.1;obtain⟨j,A,_,g⟩:=aC i f o.2;obtain rfl:u=_:=by simpa using g
  obtain rfl:v=_:=by simpa [bw] using s
  obtain⟨F,k⟩:=m.iy _ h.2;have q:=nU (P:=P) (w:=w) (x:=x) (y:=y) k (some ⟨j,b3 p,none⟩) none (.inr rfl);split at c
  .rename_i e C;obtain rfl:=aq c;rcases kV C with ⟨rfl,rfl⟩|⟨rfl,rfl⟩
   .exact⟨_,q.1,eo _⟩
   .exact⟨_,q.2,eo _⟩
  .cases c
 .rename_i b t p;obtain⟨h,c⟩:=ak l;simp only[cA] at h;obtain⟨E,i,f⟩:=gj h.1;obtain⟨j,A,_,g⟩:=aC i f s.2;obtain rfl:v=_:=by simpa using g
  obtain rfl:u=_:=by simpa [bw] using o
  obtain⟨F,k⟩:=m.iy _ h.2;have q:=nU (P:=P) (w:=w) (x:=x) (y:=y) k none (some ⟨j,b3 p,none⟩) (.inl rfl);split at c
  .rename_i e C;obtain rfl:=aq c;rcases kV C with ⟨rfl,rfl⟩|⟨rfl,rfl⟩
   .exact⟨_,q.1,eo _⟩
   .exact⟨_,q.2,eo _⟩
  .cases c
 .exact Hu m o s l
theorem JU{e:UnOp}{u:Value}{p r:ax}(c:bw γ σ.mem w p .val [u])(b:(un e p).run=some r):∃z,(Op.unary e u).run P w=.ok z w/\bw γ σ.mem w r .val [z]:=by
 unfold un at b;split at b
 .obtain rfl:=pf c;obtain rfl:=aq b;exact⟨_,rfl,eo _⟩
 .obtain⟨rfl,f⟩:=lZ c;obtain rfl:=aq b;exact⟨_,rfl,mkInt (dD _ _)⟩
 .obtain⟨rfl,f⟩:=lZ c;obtain rfl:=aq b;rename_i k n;refine⟨_,?_,mkInt (dD _ _)⟩;cases g:k.signed<;>simp[Op.unary,Op.intBits,dY,g]
 .cases b
theorem JV(O:aO B γ σ.mem w){b:Nat}{o:aS}(Q:σ.mem b=some o){q r:Nat}(D:γ.loc b=some (q,r)){p:List rW}{v:ax}(f:(Hk o.buf p o.val).run=some v) :
  ∃c tid m,w.heap[q]?=some (.cells c tid m)/\iD c m/\b3 p+b4 v<=c.size/\bw γ σ.mem w v .cells ((c.toList.drop<|b3 p).take<|b4 v):=by
 have g:=O.boxes b o Q;unfold ca at g;unfold Hk at f;cases j:o.buf with
 | false =>
   rw[j] at g f;obtain⟨t,u,c,tid,m,n,L,h,y,E⟩:=g;rw[D] at n;obtain⟨rfl,rfl⟩:=b8 (aq n);obtain⟨F,C⟩:=nB E f;exact⟨c,tid,m,L,h,by simpa using F,C⟩
 | true =>
   rw[j] at g f;rcases g with ⟨l,n,_⟩|⟨e,l,n,L,h⟩
   .rw[n] at f;cases p with
    | nil=>cases f
    | cons s p=>cases s<;>cases f
   rw[n] at f;rcases h with ⟨h,_⟩|⟨t,u,c,tid,m,h,E,R,y,U,V,W,S⟩
   .rw[D] at h;cases h
   .rw[D] at h;obtain⟨rfl,rfl⟩:=b8 (aq h);cases p with
    | nil=>cases f
    | cons s p =>
      cases s with
      | AR k off=>cases f
      | idx i size =>
        obtain⟨G,H⟩:=ak f;have z:=cG G;obtain⟨x,T,I⟩:=bo H;obtain⟨X,A⟩:=lD T;have M:=S _ x A;have J:=M.length;have Y:i.toNat<l.length:=(sE.1 A).1;have K:(i.toNat+1)*e.size<=r*e.size:=lz _ (by omega);rw[p6] at K;obtain⟨F,C⟩:=nB (v:=.data e x) (show bw γ σ.mem w (.data e x) .cells _ from M) I;rw[J] at F;refine⟨c,tid,m,E,R.th,?_,?_⟩
        .simp only[b3,z];omega
        .rw[Gn,CE,oZ,ub (by omega)] at C;simp only[b3,z];exact C
theorem oB{t:Ty}{i:TypeId}(n:Den P t i){b e:Nat}{x:t.den}{k:List Value}(l:bg w γ.I t x k)(f:(loadCells ⟨b,e,none⟩ k.length).run P w=.ok k.toArray w)
  (g:∀(j:Nat) v,k[j]?=some v->w.cell? ⟨b,e+j,none⟩=some v):(loadVar i ⟨b,e,none⟩).run P w=.ok (bX t k) w:=by
 unfold loadVar;rw[Sem.run_bind,n.agg w,Result.andThen_ok];have m:=l.length;cases h:t.isAgg with
 | true =>
   simp only[jr,Sem.run_bind,n.sizeOf w,Result.andThen_ok,<-m,f,Sem.run_pure,bX,h,cd]
 | false =>
   have hs:=lE h;rw[hs] at m;obtain⟨c,rfl⟩:=Gg.1 m;have:=g 0 c rfl;simp only[rq] at this;simp[bX,h,this]
theorem xg:∀{u:Ty} {v:ax},CL u v=true->b4 v=u.size:=by
 intro u;induction u with
 | pair a b f e =>
   intro v h;cases v with
   | data t x=>obtain rfl:=Ty.eq_of_beq (show Ty.beq t (.pair a b)=true from h);rfl
   | mix p q =>
     obtain⟨c,g⟩:=Ji.1 (show(Hl a p&&CL b q)=true from h);have i:b4 p=a.size:=by
      unfold Hl at c;split at c
      .rfl
      .rename_i t u x _;obtain rfl:=Ty.eq_of_beq c;rfl
      .cases c
     show b4 p+b4 q=a.size+b.size
     rw[i,e g]
   | _=>cases h
 | _ =>
   intro v h;cases v with
   | data t x=>obtain rfl:=Ty.eq_of_beq h;rfl
   | _=>cases h
theorem Hv{u:Ty}{v:ax}(b:Hl u v=true):b4 v=u.size:=by
 unfold Hl at b;split at b
 .rfl
 .rename_i t u x _;obtain rfl:=Ty.eq_of_beq b;rfl
 .cases b
theorem CW(s:df P cx){t:TypeId}{x:Operand}(h:b6 B N γ σ a w)(z:(gO cx d t (bG σ x) σ).run=some aB) :
  ∃u m I,aB=σ.aA d u/\a.eval x=.pointer (some I)/\(loadVar t I).run P w=.ok m w/\bw γ σ.mem w u .val [m]:=by
 have hv:=h.bG x;unfold gO at z;split at z
 .rename_i u y M;rw[M] at hv;obtain⟨L,A⟩:=ak z;obtain rfl:=aq A;have G:=s.T _ _ (fq L);obtain⟨J,off,cs,H,h2,h3⟩:=hv;obtain H:a.eval x=_:=by simpa using H
  have O:=oB (P:=P) G h2 (uu h3) (λj v C=>(h3 j v C).1);exact⟨_,_,_,rfl,H,O,cs,h2,rfl⟩
 .rename_i b au p M;rw[M] at hv;split at z
  .rename_i bx L;obtain⟨n,A⟩:=ak z;have n:=cG n;obtain⟨v,hn,Q⟩:=bind_some A;obtain⟨g,R⟩:=ak Q;obtain rfl:=aq R;obtain⟨J,cap,O,l⟩:=aC L n hv.2;obtain l:a.eval x=_:=by simpa using l
   obtain⟨K,tid,fr,g1,g2,g3,D⟩:=JV h.ok L O hn;have E:=rv (P:=P) g1 g3;have F:=D.length;have i:∀(j:Nat) S,((K.toList.drop<|b3 p).take<|b4 v)[j]?=some S->w.cell? ⟨J,b3 p+j,none⟩=some S:=λj S C=>by
    rw[cell_of_heap g1];rw[kK] at C;split at C
    .rw[pT] at C;simpa using C
    .cases C
   have single:∀(q:(isAgg t).run P w=.ok false w) (H:b4 v=1) (o:∀c,bw γ σ.mem w v .cells [c]->bw γ σ.mem w v .val [c]),
     ∃u m I,σ.aA d v=σ.aA d u/\a.eval x=.pointer (some I)/\(loadVar t I).run P w=.ok m w/\bw γ σ.mem w u .val [m]:=by
    intro q H o;rw[H] at F D i;obtain⟨c,U⟩:=Gg.1 F;rw[U] at D i;have:=i 0 c rfl;simp only[rq] at this;refine⟨_,c,_,rfl,l,?_,o c D⟩;simp[loadVar,q,this]
   cases v with
   | mix V q' =>
     rw[show nR cx t (.mix V q')=false from rfl,zW] at g;simp only[o6] at g;split at g
     .rename_i u W;have G:=s.T _ _ W;have X:=xg g;have Y:Ty.isAgg u=true:=by
       cases u with
       | pair a b=>rfl
       | _=>cases g
      refine⟨_,.agg ((K.toList.drop<|b3 p).take<|b4<|.mix V q').toArray,_,rfl,l,?_,?_⟩
      .rw[X] at E⊢;simp only[loadVar,Sem.run_bind,G.agg w,Y,Result.andThen_ok,jr,G.sizeOf w,E,Sem.run_pure]
      .obtain⟨c1,c2,e1,e2,e3⟩:=D;exact⟨c1,c2,by rw[e1],e2,e3⟩
     .cases g
   | data u y =>
     rw[show o6 cx t (.data u y)=false from rfl,Jv] at g;have G:=s.T _ _ (fq g);have Z:=oB (P:=P) G D (by rw[F];exact E) i;exact⟨_,_,_,rfl,l,Z,_,D,rfl⟩
   | whole b' r =>
     rw[show o6 cx t (.whole b' r)=false from rfl,Jv] at g;simp only[nR] at g;split at g
     .rename_i e W;exact single (by have:=(s.T _ _ W).agg w;exact this) rfl (λc k=>k)
     .cases g
   | ptr b' r V=>exact single ((s.ml _<|by simpa [o6,nR] using g).1 w) rfl (λc k=>k)
   | cB=>exact single ((s.ml _<|by simpa [o6,nR] using g).1 w) rfl (λc k=>k)
   | fn f Nz=>exact single ((s.ml _<|by simpa [o6,nR] using g).1 w) rfl (λc k=>k)
   | _=>cases g
  .cases z
 .cases z
theorem xh(c:df P cx){b:TypeId}{x:Operand}(h:b6 B N γ σ a w)(e:∀k,d=some k->k<N)(f:(gO cx d b (bG σ x) σ).run=some aB) :
  iz P B N γ σ a w d (Instr.loadAt b<|a.eval x) aB:=by
 obtain⟨u,g,m,rfl,i,j,l⟩:=CW c h f;refine bd h e ?_ l;rw[i];simp only[Instr.loadAt,Instr.sureAddr,Sem.run_bind,Sem.run_pure,Result.andThen_ok,j]
end
end Go.Ge
namespace Go.Ge
open RowKit
section
variable {P:Program} {B:Own} {N:Nat} {γ:Gh} {σ aB:St} {a:Act} {w:World} {d:Option Nat} {cx:Ctx}
theorem u4{s:TypeId}{e:Array Field}{k:Nat}{f:Field}{u:Ty}(h:P.underlying s=some (.struct e))(i:e.toList[k]?=some f)(j:Den P u f.type)(m:0<u.size)(b c:Nat) :
  (Instr.fieldAt s (.pointer<|some ⟨b,c,none⟩) k).run P w=.ok (.pointer<|some ⟨b,c+f.offset,none⟩) w:=by
 have g:e[k]?=some f:=by simpa using i
 have l:¬(u.size=0):=by omega
 simp only[Instr.fieldAt,Sem.run_bind,run_underlying h,Result.andThen_ok,g,Instr.sureAddr,Sem.run_pure,fieldPlace,j.sizeOf w,bp l,addr_add]
theorem A7{s:TypeId}{e:Array Field}{k:Nat}{f:Field}{i:TypeInfo}(j:P.underlying s=some (.struct e))(l:e.toList[k]?=some f)(m:P.info? f.type=some i)(o:0<i.size)(b c:Nat) :
  (Instr.fieldAt s (.pointer<|some ⟨b,c,none⟩) k).run P w=.ok (.pointer<|some ⟨b,c+f.offset,none⟩) w:=by
 have g:e[k]?=some f:=by simpa using l
 have n:¬(i.size=0):=by omega
 have h:(Go.sizeOf f.type).run P w=.ok i.size w:=by simp[Go.sizeOf,typeInfo,m]
 simp only[Instr.fieldAt,Sem.run_bind,run_underlying j,Result.andThen_ok,g,Instr.sureAddr,Sem.run_pure,fieldPlace,h,bp n,addr_add]
theorem sa{t:Ty}{s:TypeId}(g:Den P t s){k:Nat}{u:Ty}{o:Nat}(e:lB t k=some u)(h:fP t k=some o) :
  ∃(c:Array Field) (f:Field),P.underlying s=some (.struct c)/\c.toList[k]?=some f/\f.offset=o/\Den P u f.type/\0<u.size:=by
 cases t with
 | pair a b =>
   obtain⟨c,i,j,_⟩:=g.pair;obtain⟨f,l,p,m,n⟩:=j.at e h;exact⟨c,f,i,l,by omega,m,n⟩
 | _=>cases k<;>cases e
theorem ry(H:df P cx){s:TypeId}{x:Operand}{k:Nat}(h:b6 B N γ σ a w)(I:∀k,d=some k->k<N)(r:(di cx d s (bG σ x) k σ).run=some aB) :
  iz P B N γ σ a w d (Instr.fieldAt s (a.eval x) k) aB:=by
 have hv:=h.bG x;unfold di at r;split at r
 .rename_i u y J;rw[J] at hv;obtain⟨K,c⟩:=ak r;have S:=H.T _ _ (fq K);split at c
  .rename_i o t z U;obtain rfl:=aq c;obtain⟨g,l,V,L,W,X⟩:=hv;obtain L:a.eval x=_:=by simpa using L
   obtain⟨t',z',Y,Z,e3,e4,e5⟩:=r5 (w:=w) W (show jP u y k=some (o,.data t z) from U);cases Y;obtain⟨Q,f,A,C,D,E,F⟩:=sa S Z e3;refine bd h I (by rw[L];exact u4 A C E F g l) ⟨g,l+f.offset,(V.drop o).take t.size,rfl,e5,λj v G=>?_⟩;rw[kK] at G;split at G
   .rw[pT] at G;have:=X _ v G;rw[D,ud];exact this
   .cases G
  .cases c
 .rename_i b au p J;rw[J] at hv;obtain⟨K,c⟩:=ak r;obtain⟨R,m,n⟩:=gj K;split at c
  .rename_i t hT;split at c
   .rename_i l u M hu;obtain rfl:=aq c;obtain⟨g,q,O,e⟩:=aC m n hv.2;obtain e:a.eval x=_:=by simpa using e
    obtain⟨Q,f,A,C,D,E,F⟩:=sa (H.T _ _ hT) hu M;refine bd h I (by rw[e];exact u4 A C E F g (b3 p)) ⟨⟨_,rfl,rfl⟩,R,m,by omega,λ_=>⟨g,q,O,?_⟩⟩;rw[qg,D];simp[b3]
   .cases c
  .split at c
   .rename_i Q hO;split at c
    .rename_i l M;obtain rfl:=aq c;obtain⟨g,q,O,e⟩:=aC m n hv.2;obtain e:a.eval x=_:=by simpa using e
     obtain⟨gs,f,i,A,C,D,E,F⟩:=LZ (H.nk _ _ hO) M;refine bd h I (by rw[e];exact A7 A C E F g (b3 p)) ⟨⟨_,rfl,rfl⟩,R,m,by omega,λ_=>⟨g,q,O,?_⟩⟩;rw[qg,D];simp[b3]
    .cases c
   .cases c
 .cases r
theorem CX(l:df P cx){g:TypeId}{k o:Nat}{u:Ty}{y:u.den}{v:ax}{b:Value}(m:find cx.T g=some u)(n:bw γ σ.mem w (.data u y) .val [b])(p:iB (.data u y) k=some (o,v)) :
  ∃z,(Instr.field g b k).run P w=.ok z w/\bw γ σ.mem w v .val [z]:=by
 have q:=l.T _ _ m;obtain⟨cs,r,rfl⟩:=cH.1 n;obtain⟨h,G,rfl,i,s,t,x⟩:=r5 (w:=w) r p;obtain⟨A,f,C,D,j,E,H⟩:=sa q i s;have c:u.isAgg=true:=by cases u<;>first|rfl|(cases k<;>cases i)
 refine⟨bX h<|(cs.drop o).take h.size,?_,_,x,rfl⟩;have e:A[k]?=some f:=by simpa using D
 have F:=qY (P:=P) (w:=w) E (cs:=cs.toArray) (off:=f.offset) (by rw[j];simpa using t) lE;simp only[bX,c,cd,Instr.field,Sem.run_bind,run_underlying C,Result.andThen_ok,e,asAgg,Sem.run_pure,F];rw[j]
theorem iE{t b:TypeId}{h:Nat}(j:P.underlying t=some (.slice b))(l:(Go.sizeOf b).run P w=.ok h w)(c e f g:Nat)(k:IntKind){i:Int}(m:0<=i)(n:i<f) :
  (Instr.indexAt t (.slice (some ⟨c,e,none⟩) f g)<|.int k i).run P w=.ok (.pointer<|some ⟨c,e+i.toNat*h,none⟩) w:=by
 simp only[Instr.indexAt,asIntOf,Sem.run_bind,Sem.run_pure,Result.andThen_ok,run_underlying j,wL,m,n,jr,l,addr_add]
theorem pJ{t b:TypeId}{f n:Nat}(g:P.underlying t=some (.array n b))(h:(Go.sizeOf b).run P w=.ok f w)(c e:Nat)(k:IntKind){i:Int}(j:0<=i)(l:i<n) :
  (Instr.indexAt t (.pointer<|some ⟨c,e,none⟩)<|.int k i).run P w=.ok (.pointer<|some ⟨c,e+i.toNat*f,none⟩) w:=by
 simp only[Instr.indexAt,asIntOf,Sem.run_bind,Sem.run_pure,Result.andThen_ok,run_underlying g,Instr.sureAddr,wL,j,l,jr,h,addr_add]
theorem qi{i n:Int}(h:within i n=true):0<=i/\i<n:=by
 simp only[within,cA,yV] at h;exact h
theorem iF{i j n:Int}(h:inside i j n=true):0<=i/\i<=j/\j<=n:=by
 simp only[inside,cA,yV] at h;exact⟨h.1.1,h.1.2,h.2⟩
theorem s6{b i:Nat}{e:Ty}{n:Int}(h:o8 σ b i=some (e,n)):∃(j:aS) (k:Nat),σ.mem b=some j/\j.au=i/\j.row=some (e,k)/\n=k:=by
 unfold o8 at h;split at h
 .rename_i j m;cases c:Nat.beq j.au i with
  | false=>rw[c] at h;cases h
  | true =>
    rw[c] at h;simp only[cd] at h;split at h
    .rename_i o l f g;obtain⟨rfl,rfl⟩:=b8 (aq h);exact⟨j,_,m,cG c,by rw[aS.row,f,g],rfl⟩
    .rename_i p o l f g;obtain⟨rfl,rfl⟩:=b8 (aq h);exact⟨j,_,m,cG c,by rw[aS.row,f,g],rfl⟩
    .cases h
 .cases h
theorem aS.ck{bx:aS}{e:Ty}{l:List e.den}(b:bx.buf=true)(c:bx.val=.data (.slice e) l):bx.row=some (e,l.length):=by rw[aS.row,b,c]
theorem aS.kk{bx:aS}{e:Ty}{n:Nat}{l:(Ty.arr n e).den}(b:bx.buf=false)(c:bx.val=.data (.arr n e) l):bx.row=some (e,n):=by rw[aS.row,b,c]
theorem pg(c:df P cx){t e:Nat}(h:zY cx t=some e):P.underlying t=some (.slice e)/\bJ cx.ml e=true:=by
 unfold zY at h;split at h
 .cases h
 .split at h
  .rename_i u f;cases b:bJ cx.ml u with
   | false=>rw[b] at h;cases h
   | true =>
     rw[b] at h;obtain rfl:=aq h;exact⟨c.JB _ _ f,b⟩
  .cases h
theorem EF{b c:Nat}{i:Int}:∀{m k:Nat},(wP d b c σ i m k).run=some aB->∃j:Nat,k<=j/\j<k+m/\i=j/\aB=σ.aA d (.ptr b c [.AR j j]):=by
 intro m;induction m with
 | zero=>intro k f;cases f
 | succ m h =>
   intro k f;have e:=eh f;cases g:aQ i k with
   | true =>
     rw[g] at e;obtain rfl:=aq e;exact⟨k,cU _,by omega,by simpa [aQ] using g,rfl⟩
   | false =>
     rw[g] at e;obtain⟨j,o,p,l,n⟩:=h e;exact⟨j,by omega,by omega,l,n⟩
theorem u5{q:List rW}(h:v7 q=true):b3 q=0:=by
 unfold v7 at h;split at h
 .simp[b3,cG h]
 .cases h
theorem mg(U:df P cx){ty:TypeId}{x:Operand}{V:IntKind}{i:Int}(h:b6 B N γ σ a w)(Z:∀k,d=some k->k<N)(C:(cR cx d ty (bG σ x) i σ).run=some aB) :
  iz P B N γ σ a w d (Instr.indexAt ty (a.eval x)<|.int V i) aB:=by
 have hv:=h.bG x;unfold cR at C;split at C
 .rename_i u e l K G;rw[G] at hv;obtain⟨D,o⟩:=ak C;obtain rfl:=Ty.eq_of_beq D;obtain⟨y,hy,A⟩:=bo o;obtain rfl:=aq A;obtain⟨L,H⟩:=lD hy;obtain⟨M,I,J,k3,k4⟩:=(U.T _ _ K).slice;obtain⟨cs,E,z⟩:=cH.1 hv;have hi:i.toNat<List.length (α:=u.den) l:=(sE.1 H).1;rcases E with ⟨_,E⟩|⟨f,F,r,E,h2,h3,h4⟩
  .exfalso;have:List.length (α:=u.den) l=0:=by rw[show l=([]:List u.den) from E];rfl
   omega
  .rw[E] at z;have W:a.eval x=.slice (some ⟨f,F,none⟩) (List.length (α:=u.den) l) r:=z;obtain⟨es,g1,R,O⟩:=h4 _ y H;refine bd h Z (by rw[W];exact iE I (J.sizeOf w) f F _ r V L (by omega)) ⟨f,F+i.toNat*u.size,es,rfl,O,λj v Q=>?_⟩;exact R j v Q
 .rename_i m u n e l K G;rw[G] at hv;obtain⟨D,o⟩:=ak C;simp only[cA] at D;obtain rfl:=Ty.eq_of_beq D.1;obtain rfl:=cG D.2;obtain⟨y,hy,A⟩:=bo o;obtain rfl:=aq A;obtain⟨L,H⟩:=lD hy;obtain⟨M,I,J,k3⟩:=(U.T _ _ K).arr;obtain⟨f,F,cs,E,h2,h3⟩:=hv;obtain E:a.eval x=_:=by simpa using E
  have hi:i.toNat<m:=by have:=(sE.1 H).1;have:=h2.1;omega
  have P0:=h2.2.2 _ y H;refine bd h Z (by rw[E];exact pJ I (J.sizeOf w) f F V L (by omega)) ⟨f,F+i.toNat*u.size,_,rfl,P0,λj v Q=>?_⟩;rw[kK] at Q;split at Q
  .rw[pT] at Q;have:=h3 _ v Q;rw[ud];exact this
  .cases Q
 .rename_i u b X K G;rw[G] at hv;split at C
  .rename_i e n he;obtain⟨D,o⟩:=ak C;obtain rfl:=Ty.eq_of_beq D;obtain⟨hw,A⟩:=bM o;obtain rfl:=aq A;obtain⟨L,E⟩:=qi hw;obtain⟨S,k,g,s,t,rfl⟩:=s6 he;obtain⟨M,I,J,k3,k4⟩:=(U.T _ _ K).slice;obtain⟨e',n',g1,R,O⟩:=aC g s hv.2;rw[t] at R;obtain⟨rfl,rfl⟩:=b8 (aq R);rcases O with ⟨O,g4⟩|⟨f,r,O,g4⟩
   .exfalso;have NM:=h.ok.boxes b S g;obtain⟨e2,l,j1,j2,j3⟩:=NM.Hq g1 (λ_ q=>by rw[aS.row,g1,q] at t;cases t);rcases j3 with ⟨_,j4⟩|⟨_,_,_,_,_,j3,_⟩
    .rw[aS.ck g1 j1,j4] at t;have:0=k:=by
      have:=(b8<|aq t).2;simpa using this
     omega
    .rw[O] at j3;cases j3
   .obtain g4:a.eval x=_:=by simpa using g4
    refine bd h Z (by rw[g4];exact iE I (J.sizeOf w) f 0 _ r V L E) ⟨⟨_,rfl,rfl⟩,S,g,by omega,λ_=>⟨f,r,O,by simp[b3]⟩⟩
  .cases C
 .rename_i u b X lo n K G;rw[G] at hv;split at C
  .rename_i e n2 he;obtain⟨D,o⟩:=ak C;obtain rfl:=Ty.eq_of_beq D;obtain⟨hw,A⟩:=bM o;obtain rfl:=aq A;obtain⟨L,E⟩:=qi hw;obtain⟨S,k,g,s,t,rfl⟩:=s6 he;obtain⟨M,I,J,k3,k4⟩:=(U.T _ _ K).slice;obtain⟨e',n',R,O,g4,g5,base,r,g6,Y,g8,gF,g9⟩:=aC g s hv.2;rw[t] at R;obtain⟨rfl,rfl⟩:=b8 (aq R);rcases g9 with g9|⟨f,c,g9,g10⟩
   .omega
   .obtain g6:a.eval x=_:=by simpa using g6
    refine bd h Z (by rw[g6,g10];exact iE I (J.sizeOf w) f _ _ r V L (by omega)) ⟨⟨_,rfl,rfl⟩,S,g,by omega,λ_=>⟨f,c,g9,?_⟩⟩;have:(plus lo i).toNat=lo.toNat+i.toNat:=by simp only[plus];omega
    simp only[b3,this,o0,rq]
  .cases C
 .rename_i m u b X p K G;rw[G] at hv;obtain⟨D,o⟩:=ak C;obtain⟨S,g,s⟩:=gj D;obtain⟨hw,A⟩:=bM o;obtain rfl:=aq A;obtain⟨L,E⟩:=qi hw;obtain⟨M,I,J,k3⟩:=(U.T _ _ K).arr;obtain⟨f,r,hl,z⟩:=aC g s hv.2;obtain z:a.eval x=_:=by simpa using z
  refine bd h Z (by rw[z];exact pJ I (J.sizeOf w) f _ V L E) ⟨⟨_,rfl,rfl⟩,S,g,by omega,λ_=>⟨f,r,hl,?_⟩⟩;rw[qg];simp[b3]
 .rename_i b X q e0 k0 lo n K G;rw[G] at hv;split at C
  .rename_i e he;obtain⟨D,o⟩:=ak C;simp only[cA,yV] at D;obtain⟨⟨hq,rfl⟩,hl⟩:=D;obtain⟨S,g,s⟩:=gj hl;obtain⟨I,J⟩:=pg U he;obtain⟨j,_,Q,rfl,rfl⟩:=EF o;obtain⟨_,f,c,g1,R,O,g4,base,r,g5,g6,Y⟩:=aC g s hv.2;obtain g5:a.eval x=_:=by simpa using g5
   rcases Y with Y|Y
   .subst Y;simp at Q
   .rw[u5 hq] at Y;have RW:((j:Nat):Int)<(n.toNat:Int):=by omega
    refine bd h Z (by rw[g5,Y];exact iE I ((U.ml _ J).2.1 w) f _ _ r V (by omega) RW) ⟨⟨_,rfl,rfl⟩,S,g,by omega,λ_=>⟨f,c,g1,?_⟩⟩;simp[b3]
  .cases C
 .cases C
theorem vx(r:df P cx){s:TypeId}{x:Operand}{t:IntKind}{i:Int}(h:b6 B N γ σ a w)(A:∀k,d=some k->k<N)(p:(hM cx d s (bG σ x) i σ).run=some aB) :
  iz P B N γ σ a w d (Instr.indexAt s (a.eval x)<|.int t i) aB:=by
 have hv:=h.bG x;unfold hM at p;split at p
 .rename_i b F q Q R S n e G H;rw[G] at hv;obtain⟨C,f⟩:=ak p;simp only[cA,yV] at C;obtain⟨⟨I,rfl⟩,J⟩:=C;obtain⟨K,l,m⟩:=gj J;obtain⟨L,M⟩:=pg r H;split at f
  .rename_i j;obtain⟨D,u⟩:=ak f;obtain rfl:=aq u;have D:=yW D;obtain⟨_,o,c,O,T,U,V,E,v,y,W,g⟩:=aC l m hv.2;obtain y:a.eval x=_:=by simpa using y
   rcases g with g|g
   .subst g;omega
   .rw[u5 I] at g;have z:((j:Nat):Int)<(n.toNat:Int):=by omega
    show iz P B N γ σ a w d (Instr.indexAt s (a.eval x)<|.int t (j:Int)) _
    refine bd h A (by rw[y,g];exact iE L ((r.ml _ M).2.1 w) o _ _ v t (by omega) z) ⟨⟨_,rfl,rfl⟩,K,l,by omega,λ_=>⟨o,c,O,?_⟩⟩;simp[b3]
  .cases f
 .exact mg r h A p
theorem u8_in(b:UInt8):IntKind.u8.min<=u8 b/\u8 b<=IntKind.u8.max:=by
 have:=b.toNat_lt;have c:IntKind.u8.min=0:=by decide
 have e:IntKind.u8.max=255:=by decide
 simp only[u8,c,e];omega
theorem vy(G:df P cx){o:TypeId}{x:Operand}{H:IntKind}{i:Int}(h:b6 B N γ σ a w)(I:∀k,d=some k->k<N)(j:(hU cx d o (bG σ x) i σ).run=some aB) :
  iz P B N γ σ a w d (Instr.index o (a.eval x)<|.int H i) aB:=by
 have hv:=h.bG x;unfold hU at j;split at j
 .rename_i s p q;rw[q] at hv;obtain⟨b,r,g⟩:=bo j;obtain rfl:=aq g;obtain⟨t,f⟩:=lD r;obtain⟨c,X⟩:=nT hv;refine bd h I (x:=.int .u8 (u8 b)) ?_ (mkInt<|u8_in b);rw[c];have K:=(G.T _ _ p).str;have L:(⟨List.toArray<|show aE from s⟩:ByteArray)[i.toNat]?=some b:=by
   have:=(sE.1 f);obtain⟨M,O⟩:=this;have v:i.toNat<(⟨List.toArray<|show aE from s⟩:ByteArray).size:=M;rw[getElem?_pos (⟨List.toArray<|show aE from s⟩:ByteArray) i.toNat v];exact congrArg some O
  simp only[Instr.index,asIntOf,Sem.run_bind,Sem.run_pure,Result.andThen_ok,run_underlying K,t,jr,L];rfl
 .rename_i m u n e l p q;rw[q] at hv;obtain⟨z,A⟩:=ak j;simp only[cA] at z;obtain rfl:=Ty.eq_of_beq z.1;obtain rfl:=cG z.2;obtain⟨y,r,g⟩:=bo A;obtain rfl:=aq g;obtain⟨t,f⟩:=lD r;obtain⟨Q,R,J,Y⟩:=(G.T _ _ p).arr;obtain⟨C,D,c⟩:=cH.1 hv;have S:i.toNat<m:=by have:=(sE.1 f).1;have:=D.1;omega
  have E:=D.2.2 _ y f;have U:(i.toNat+1)*u.size<=m*u.size:=lz _ S;rw[p6] at U;have V:=D.2.1;have W:=qY (P:=P) (w:=w) J (cs:=C.toArray) (off:=i.toNat*u.size) (by simp;omega) lE;refine bd h I (x:=bX u ((C.drop<|i.toNat*u.size).take u.size)) ?_ ⟨_,E,rfl⟩;have F:i<(m:Int):=by omega
  rw[c];show(Instr.index o (.agg C.toArray)<|.int H i).run P w=_
  simp only[Instr.index,asIntOf,Sem.run_bind,Sem.run_pure,Result.andThen_ok,run_underlying R,t,F,wL,jr,J.sizeOf w,W]
 .cases j
theorem RX(b:Bool)(c e:Nat):(Instr.sliceBounds b c e none none none).run P w=.ok (0,c,e) w:=by simp[Instr.sliceBounds]
theorem RY(b:Bool)(e c:Nat)(k:IntKind){y:Int}(f:0<=y)(g:y<=c):(Instr.sliceBounds b e c none (some<|.int k y) none).run P w=.ok (0,y.toNat,c) w:=by
 have h:(0:Int)<=y/\y<=(c:Int):=⟨f,g⟩;simp only[Instr.sliceBounds,Instr.sliceBound,asIntOf,Sem.run_bind,Sem.run_pure,Result.andThen_ok,h,wL,jr]
theorem RZ(b:Bool)(c e:Nat)(k:IntKind){y:Int}(f:0<=y)(g:y<=c):(Instr.sliceBounds b c e (some<|.int k y) none none).run P w=.ok (y.toNat,c,e) w:=by
 have h:(0:Int)<=y/\y<=(c:Int):=⟨f,g⟩;simp only[Instr.sliceBounds,Instr.sliceBound,asIntOf,Sem.run_bind,Sem.run_pure,Result.andThen_ok,h,wL,jr]
theorem P1(b:Bool)(f c:Nat)(k g:IntKind){y e:Int}(h:0<=y)(m:y<=e)(i:e<=c):(Instr.sliceBounds b f c (some<|.int k y) (some<|.int g e) none).run P w=.ok (y.toNat,e.toNat,c) w:=by
 have j:(0:Int)<=e/\e<=(c:Int):=⟨by omega,i⟩;have l:(0:Int)<=y/\y<=((e.toNat:Nat):Int):=⟨h,by omega⟩;simp only[Instr.sliceBounds,Instr.sliceBound,asIntOf,Sem.run_bind,Sem.run_pure,Result.andThen_ok,j,wL,jr];simp only[l,wL,jr,Sem.run_pure,Result.andThen_ok]
theorem jQ{s r:Option Operand}{n:Int}{i j:Int}(h:b6 B N γ σ a w)(g:bounds σ n s r=some (i,j))(b:Bool)(c f:Nat)(u:n=c)(A:c<=f)(v:0<=i)(x:i<=j)(G:j<=n) :
  (Instr.sliceBounds b c f (s.map a.eval) (r.map a.eval) none).run P w=.ok (i.toNat,j.toNat,f) w:=by
 have l:∀(o:Operand) k (m:Int),bG σ o=.data (.int k) m->a.eval o=.int k m:=λo k m e=>by
  have:=h.bG o;rw[e] at this;exact(lZ this).1
 unfold bounds at g;cases s with
 | none =>
   cases r with
   | none =>
     obtain⟨rfl,rfl⟩:=b8 (aq g);have:=RX (P:=P) (w:=w) b c f;rw[u];simpa using this
   | some o =>
     simp only at g;split at g
     .rename_i k y q;obtain⟨rfl,p⟩:=b8 (aq g);have e:=l o k _ q;rw[show y=j from p] at e;simp only[sI,Option.map_none,e];exact RY b c f k x (by omega)
     .cases g
 | some o =>
   cases r with
   | none =>
     simp only at g;split at g
     .rename_i k y q;obtain⟨p,rfl⟩:=b8 (aq g);have e:=l o k _ q;rw[show y=i from p] at e;simp only[sI,Option.map_none,e];have:=RZ (P:=P) (w:=w) b c f k v (by omega);rw[u];simpa using this
     .cases g
   | some C =>
     simp only at g;split at g
     .rename_i k y z D q t;obtain⟨E,F⟩:=b8 (aq g);have e:=l o k _ q;have p:=l C z _ t;rw[show y=i from E] at e;rw[show D=j from F] at p;simp only[sI,e,p];exact P1 b c f k z v x (by omega)
     .cases g
theorem CY(s:aE){i j:Int}(b:0<=i)(c:i<=j):(⟨s.toArray⟩:ByteArray).extract i.toNat j.toNat=⟨(sub s i<|minus j i).toArray⟩:=by
 have:(minus j i).toNat=j.toNat-i.toNat:=by simp only[minus];omega
 apply ByteArray.ext;rw[ByteArray.data_extract];apply CJ;simp[sub,this,List.extract_eq_take_drop]
theorem EG{α:Type}(s:List α)(i n:Int):(sub s i n).length<=s.length:=by
 simp only[sub,fj,mJ];omega
theorem JW{I:Nat->Nat->Prop}{e:Ty}{l:List e.den}{c f g i j:Nat}(p:∀(k:Nat) (x:e.den),l[k]?=some x->∃m:List Value,m.length=e.size /\
   (∀(q:Nat) v,m[q]?=some v->w.cell? ⟨c,f+k*e.size+q,none⟩=some v/\I c (f+k*e.size+q))/\bg w I e x m) (z:i<=j) (A:j<=l.length) (C:l.length<=g) (D:g<=maxLen) (h:Option Addr)
  (r:h=some ⟨c,f+i*e.size,none⟩\/(i=g/\h=some ⟨c,f,none⟩)) :
  bg w I (.slice e) ((l.drop i).take<|j-i) [.slice h (j-i)<|g-i]:=by
 have hlen:((l.drop i).take<|j-i).length=j-i:=by simp;omega
 rcases r with rfl|⟨rfl,rfl⟩
 .refine .inr ⟨c,f+i*e.size,g-i,?_,?_,by omega,λk x n=>?_⟩
  .show [Value.slice _ (j-i) _]=[Value.slice _ (List.length (α:=e.den)<|(l.drop i).take<|j-i) _]
   rw[hlen]
  .show List.length (α:=e.den) ((l.drop i).take<|j-i)<=_
   rw[hlen];omega
  .have b:((l.drop i).take<|j-i)[k]?=some x:=n;rw[kK] at b;split at b
   .rw[pT] at b;obtain⟨m,s,t,u⟩:=p _ x b;refine⟨m,s,λq v y=>?_,u⟩;have:=t q v y;rw[o0,<-ud] at this;exact this
   .cases b
 .have o:j=i:=by omega
  subst o;refine .inr ⟨c,f,0,by simp,by simp,by omega,λk x n=>?_⟩;have b:((l.drop j).take<|j-j)[k]?=some x:=n;simp at b
theorem sub_eq{b:Type}(l:List b){i j:Int}(c:0<=i)(e:i<=j):sub l i (minus j i)=(l.drop i.toNat).take (j.toNat-i.toNat):=by
 have:(minus j i).toNat=j.toNat-i.toNat:=by simp only[minus];omega
 rw[sub,this]
theorem sub_zero{α:Type}(l:List α):sub l 0 (minus 0 0)=[]:=by simp[sub,minus]
theorem Hw{I:Nat->Nat->Prop}{e:Ty}{l:List e.den}{c f g:Nat}{i j:Int}(m:∀(k:Nat) (x:e.den),l[k]?=some x->∃h:List Value,h.length=e.size /\
   (∀(q:Nat) v,h[q]?=some v->w.cell? ⟨c,f+k*e.size+q,none⟩=some v/\I c (f+k*e.size+q))/\bg w I e x h) (n:0<=i) (o:i<=j) (t:j<=l.length) (p:l.length<=g) (r:g<=maxLen) (b:Option Addr)
  (s:b=some ⟨c,f+i.toNat*e.size,none⟩\/(i.toNat=g/\b=some ⟨c,f,none⟩)) :
  bg w I (.slice e) (sub l i<|minus j i) [.slice b (j.toNat-i.toNat)<|g-i.toNat]:=by
 rw[sub_eq l n o];exact JW (w:=w) m (by omega) (by omega) p r b s
theorem mN.sub{b:Option Addr}{c:Nat}(h:mN b c)(i s:Nat):mN (if c=i then b else b.map (·.add s)) (c-i):=by
 rcases h with rfl|⟨e,f,rfl⟩
 .exact .inl (by omega)
 .refine .inr ?_;split
  .exact⟨e,f,rfl⟩
  .exact⟨e,f+s,by rw[sI,addr_add]⟩
theorem sW.sub{l:aS}{b:Nat}{g i:Int}{c:Option Addr}{f:Nat}(h:sW γ l b g c f)(m:0<=g)(q:0<=i)(s:Nat) :
  sW γ l b (plus g i) (if f=i.toNat then c else c.map (·.add (i.toNat*s))) (f-i.toNat):=by
 intro e n;have o:g=0:=by simp only[plus] at e;omega
 have p:i=0:=by simp only[plus] at e;omega
 subst o;subst p;rcases h rfl n with ⟨j,rfl,rfl⟩|⟨k,j,rfl⟩
 .exact .inl ⟨j,by simp,rfl⟩
 .refine .inr ⟨k,by simpa using j,?_⟩;split
  .rfl
  .simp[Addr.add]
theorem vz(hc:df P cx){ty:TypeId}{x:Operand}{lo hi:Option Operand}(h:b6 B N γ σ a w)(hd:∀k,d=some k->k<N)(F:(hJ cx d ty (bG σ x) lo hi σ).run=some aB) :
  iz P B N γ σ a w d (Instr.sliceAt ty (a.eval x) (lo.map a.eval) (hi.map a.eval) none) aB:=by
 have hv:=h.bG x;unfold hJ at F;split at F
 ·
  rename_i s O Q;rw[Q] at hv;split at F
  .rename_i i j G;obtain⟨A,r⟩:=bM F;obtain rfl:=aq r;obtain⟨D,J,E⟩:=iF A;obtain⟨p,hl⟩:=nT hv;have hu:=(hc.T _ _ O).str;have y:=jQ (P:=P) h G false (List.length (α:=UInt8) s) (List.length (α:=UInt8) s) rfl (cU _) D J E;refine bd h hd (x:=.string ⟨(sub (α:=UInt8) s i<|minus j i).toArray⟩) ?_ (mkStr<|iA (EG (α:=UInt8) s _ _) hl);rw[p];have Nl:(⟨List.toArray (α:=UInt8) s⟩:ByteArray).size=List.length (α:=UInt8) s:=rfl;simp only[Instr.sliceAt,Instr.slice,Sem.run_bind,run_underlying hu,Result.andThen_ok,Nl,Option.isSome_none,Et,ug];rw[y];simp only[Result.andThen_ok,Sem.run_pure];rw[CY (show aE from s) D J]
  .cases F
 ·
  rename_i u e l O Q;rw[Q] at hv;obtain⟨t,o⟩:=ak F;obtain rfl:=Ty.eq_of_beq t;split at o
  .rename_i i j G;obtain⟨A,r⟩:=bM o;obtain rfl:=aq r;obtain⟨D,J,E⟩:=iF A;obtain⟨Cq,V,W,k3,k4⟩:=(hc.T _ _ O).slice;obtain⟨cs,JX,p⟩:=cH.1 hv;have H:len (α:=u.den) l=(List.length (α:=u.den) l:Int):=rfl;rcases JX with ⟨⟨K,e1⟩,e2⟩|⟨b,R,f,e1,e2,e3,e4⟩
   .have L:a.eval x=.slice K 0 0:=by rw[p,e1];rfl
    have M:List.length (α:=u.den) l=0:=by rw[show l=([]:List u.den) from e2];rfl
    rw[H,M] at E;have PB:i=0:=by omega
    have R0:j=0:=by omega
    subst PB;subst R0;have y:=jQ (P:=P) h G true 0 0 (by rw[H,M]) (cU _) D J (by rw[H,M];exact E);refine bd h hd (x:=.slice K 0 0) ?_ ⟨_,.inl ⟨⟨K,rfl⟩,?_⟩,rfl⟩
    .rw[L];simp only[Instr.sliceAt,Instr.slice,Sem.run_bind,run_underlying V,Result.andThen_ok,y,W.sizeOf w,Sem.run_pure];rfl
    .exact sub_zero (α:=u.den) l
   .have L:a.eval x=.slice (some ⟨b,R,none⟩) (List.length (α:=u.den) l) f:=by rw[p,e1];rfl
    have y:=jQ (P:=P) h G true (List.length (α:=u.den) l) f H e2 D J E;have hj:j.toNat<=List.length (α:=u.den) l:=by rw[H] at E;omega
    have OL:=Hw (w:=w) (i:=i) (j:=j) e4 D J (by rw[H] at E;exact E) e2 e3;refine bd h hd (x:=.slice (if f=i.toNat then some ⟨b,R,none⟩ else some ⟨b,R+i.toNat*u.size,none⟩) (j.toNat-i.toNat) (f-i.toNat)) ?_
     ⟨_,OL (if f=i.toNat then some ⟨b,R,none⟩ else some ⟨b,R+i.toNat*u.size,none⟩) (by
      split
      .rename_i v;exact .inr ⟨v.symm,rfl⟩
      .exact .inl rfl),rfl⟩
    rw[L];simp only[Instr.sliceAt,Instr.slice,Sem.run_bind,run_underlying V,Result.andThen_ok,y,W.sizeOf w,Sem.run_pure,sI,addr_add]
  .cases o
 ·
  rename_i u c au Rf n O Q;rw[Q] at hv;split at F
  .rename_i X z;obtain⟨t,o⟩:=ak F;simp only[cA] at t;have C:=cG t.1;split at o
   .rename_i i j G;obtain⟨A,r⟩:=bM o;obtain rfl:=aq r;obtain⟨D,J,E⟩:=iF A;obtain⟨Cq,V,W,k3,k4⟩:=(hc.T _ _ O).slice;obtain⟨e',k,g2,Y,g4,g5,g,f,g6,g7,g8,gF,g9⟩:=aC z C hv.2;have P2:u=e':=by
     have:=t.2;rw[g2] at this;exact Ty.eq_of_beq this
    subst P2;obtain g6:a.eval x=_:=by simpa using g6
    have y:=jQ (P:=P) h G true n.toNat f (by omega) g7 D J E;refine bd h hd (x:=.slice (if f=i.toNat then g else g.map (·.add (i.toNat*u.size))) (j.toNat-i.toNat) (f-i.toNat)) ?_
     ⟨⟨_,rfl,rfl⟩,X,z,by omega,λ_=>⟨u,k,g2,by simp only[plus];omega,by simp only[minus];omega,by simp only[plus,minus];omega,(if f=i.toNat then g else g.map (·.add (i.toNat*u.size))),f-i.toNat,?_,?_,?_,⟨gF.1.sub _ _,gF.2.sub Y D _⟩,?_⟩⟩
    .rw[g6];simp only[Instr.sliceAt,Instr.slice,Sem.run_bind,run_underlying V,Result.andThen_ok,y,W.sizeOf w,Sem.run_pure]
    .have:(minus j i).toNat=j.toNat-i.toNat:=by simp only[minus];omega
     rw[this]
    .simp only[minus];omega
    .omega
    .rcases g9 with g9|⟨b,c',g9,g10⟩
     .exact .inl (by simp only[minus];omega)
     .by_cases v:f=i.toNat
      .exact .inl (by simp only[minus];omega)
      .refine .inr ⟨b,c',g9,?_⟩;rw[bp v,g10];have:(plus Rf i).toNat=Rf.toNat+i.toNat:=by simp only[plus];omega
       simp only[sI,addr_add,this,o0]
   .cases o
  .cases F
 ·
  rename_i u c au O Q;rw[Q] at hv;split at F
  .rename_i X z;obtain⟨t,o⟩:=ak F;simp only[cA] at t;have C:=cG t.1;split at o
   .rename_i e l S;obtain⟨P2,r⟩:=ak o;obtain rfl:=Ty.eq_of_beq P2;obtain⟨Cq,V,W,k3,k4⟩:=(hc.T _ _ O).slice;obtain⟨e',n',g1,g2,Y⟩:=aC z C hv.2;have OM:X.row=some (u,List.length (α:=u.den) l):=aS.ck t.2 S;rw[OM] at g2;obtain⟨rfl,rfl⟩:=b8 (aq g2);have NM:=h.ok.boxes c X z;obtain⟨e2,l2,j1,j2,j3⟩:=NM.Hq g1 (λ_ q=>by rw[S] at q;cases q);have ON:∃g f,a.eval x=.slice g (List.length (α:=u.den) l) f/\List.length (α:=u.den) l<=f/\f<=maxLen/\(((f=0/\List.length (α:=u.den) l=0)/\γ.loc c=none/\g=none)\/∃b,γ.loc c=some (b,f)/\g=some ⟨b,0,none⟩):=by
     rw[S] at j1;cases j1;rcases Y with ⟨Y,g4⟩|⟨b,f,Y,g4⟩
     .obtain g4:a.eval x=_:=by simpa using g4
      rcases j3 with ⟨_,j4⟩|⟨_,_,_,_,_,j3,_⟩
      .have M:List.length (α:=u.den) l=0:=by rw[j4];rfl
       exact⟨none,0,by rw[g4,M],by omega,jO _,.inl ⟨⟨rfl,M⟩,Y,rfl⟩⟩
      .rw[Y] at j3;cases j3
     .obtain g4:a.eval x=_:=by simpa using g4
      rcases j3 with ⟨j3,_⟩|⟨JY,CZ,cur,tid,fr,q1,Z,q3,JZ,q4,q5,q6,q7⟩
      .rw[Y] at j3;cases j3
      .rw[Y] at q1;obtain⟨rfl,rfl⟩:=b8 (aq q1);exact⟨_,f,g4,q4,q5,.inr ⟨b,Y,rfl⟩⟩
    obtain⟨g,f,m1,m2,m3,m4⟩:=ON;have hF:mN g f:=by
     rcases m4 with ⟨⟨Z,_⟩,_⟩|⟨b,q1,Z⟩
     .exact .inl Z
     .exact .inr ⟨b,0,Z⟩
    have hZ:sW γ X c 0 g f:=λ_ _=>by
     rcases m4 with ⟨⟨Z,_⟩,q3,q4⟩|⟨b,q1,Z⟩
     .exact .inl ⟨q3,q4,Z⟩
     .exact .inr ⟨b,q1,Z⟩
    have I:∀{i j:Int},bounds σ (len (α:=u.den) l) lo hi=some (i,j)->0<=i->i<=j->j<=len (α:=u.den) l ->
      (Instr.sliceAt ty (a.eval x) (lo.map a.eval) (hi.map a.eval) none).run P w=.ok (.slice (if f=i.toNat then g else g.map (·.add (i.toNat*u.size))) (j.toNat-i.toNat)<|f-i.toNat) w:=by
     intro i j G D J E;have y:=jQ (P:=P) h G true (List.length (α:=u.den) l) f rfl m2 D J E;rw[m1];simp only[Instr.sliceAt,Instr.slice,Sem.run_bind,run_underlying V,Result.andThen_ok,y,W.sizeOf w,Sem.run_pure]
    split at r
    .obtain rfl:=aq r;have:=I (i:=0) (j:=len (α:=u.den) l) rfl (by omega) (by simp only[len];omega) (by omega);have R1:(len (α:=u.den) l).toNat=List.length (α:=u.den) l:=by simp[len]
     rw[R1] at this;refine bd h hd (x:=a.eval x) ?_ hv;rw[this,m1]
     congr 1
     have:(g.map (·.add ((0:Int).toNat*u.size)))=g:=by cases g<;>simp[Addr.add]
     rw[this];simp
    .split at r
     .rename_i i j G;obtain⟨A,U⟩:=bM r;obtain rfl:=aq U;obtain⟨D,J,E⟩:=iF A;have H:len (α:=u.den) l=(List.length (α:=u.den) l:Int):=rfl;rw[H] at E;refine bd h hd (I G D J E)
       ⟨⟨_,rfl,rfl⟩,X,z,by omega,λ_=>⟨u,_,OM,D,by simp only[minus];omega,by simp only[minus];omega,(if f=i.toNat then g else g.map (·.add (i.toNat*u.size))),f-i.toNat,?_,?_,?_,⟨hF.sub _ _,by have:=hZ.sub (wK 0) D u.size;rwa [show plus 0 i=i by simp[plus]] at this⟩,?_⟩⟩
      .have:(minus j i).toNat=j.toNat-i.toNat:=by simp only[minus];omega
       rw[this]
      .simp only[minus];omega
      .omega
      .by_cases v:f=i.toNat
       .exact .inl (by simp only[minus];omega)
       .rcases m4 with ⟨q1,q3⟩|⟨b,q1,Z⟩
        .exact .inl (by simp only[minus];omega)
        .refine .inr ⟨b,f,q1,?_⟩;rw[bp v,Z];simp only[sI,addr_add,kL]
     .cases r
   .cases o
  .cases F
 ·
  rename_i m u c au s q O Q;rw[Q] at hv;obtain⟨OO,o⟩:=ak F;simp only[cA] at OO;obtain⟨X,z,C⟩:=gj OO.1;have P3:=rT OO.2;split at o
  .rename_i i j G;obtain⟨A,U⟩:=bM o;obtain rfl:=aq U;obtain⟨D,J,E⟩:=iF A;obtain⟨Cq,V,W,k3⟩:=(hc.T _ _ O).arr;obtain⟨b,f,hl,p⟩:=aC z C hv.2;obtain p:a.eval x=.pointer (some ⟨b,b3 (s::q),none⟩):=by simpa using p
   have y:=jQ (P:=P) h G false m m rfl (cU _) D J E;refine bd h hd (x:=.slice (some<|if m=i.toNat then⟨b,b3 (s::q),none⟩ else(⟨b,b3 (s::q),none⟩:Addr).add (i.toNat*u.size)) (j.toNat-i.toNat) (m-i.toNat)) ?_
    ⟨⟨_,rfl,rfl⟩,X,z,by omega,λ_=>⟨by simp,b,f,hl,D,by simp only[minus];omega,by simp only[minus];omega,some (if m=i.toNat then⟨b,b3 (s::q),none⟩ else(⟨b,b3 (s::q),none⟩:Addr).add (i.toNat*u.size)),m-i.toNat,?_,?_,?_⟩⟩
   .rw[p];simp only[Instr.sliceAt,Sem.run_bind,run_underlying V,Result.andThen_ok,Instr.sureAddr,Sem.run_pure,y,W.sizeOf w]
   .have:(minus j i).toNat=j.toNat-i.toNat:=by simp only[minus];omega
    rw[this]
   .simp only[minus];omega
   .by_cases v:m=i.toNat
    .exact .inl (by simp only[minus];omega)
    .refine .inr ?_;rw[bp v];simp only[addr_add]
  .cases o
 ·
  rename_i m u c au O Q;rw[Q] at hv;split at F
  .rename_i X z;obtain⟨t,o⟩:=ak F;simp only[cA,fO] at t;have C:=cG t.1;split at o
   .rename_i n e l S;obtain⟨hq,r⟩:=ak o;simp only[cA] at hq;obtain rfl:=cG hq.1.1;obtain rfl:=Ty.eq_of_beq hq.1.2;have P3:=rT hq.2;split at r
    .rename_i i j G;obtain⟨A,U⟩:=bM r;obtain rfl:=aq U;obtain⟨D,J,E⟩:=iF A;obtain⟨Cq,V,W,k3⟩:=(hc.T _ _ O).arr;obtain⟨b,f,hl,p⟩:=aC z C hv.2;obtain p:a.eval x=.pointer (some ⟨b,0,none⟩):=by simpa [b3] using p
     have y:=jQ (P:=P) h G false m m rfl (cU _) D J E;have hF:mN (some<|if m=i.toNat then⟨b,0,none⟩ else(⟨b,0,none⟩:Addr).add (i.toNat*u.size)) (m-i.toNat):=by
      refine .inr ?_;split
      .exact⟨b,0,rfl⟩
      .exact⟨b,0+i.toNat*u.size,by rw[addr_add]⟩
     refine bd h hd (x:=.slice (some<|if m=i.toNat then⟨b,0,none⟩ else(⟨b,0,none⟩:Addr).add (i.toNat*u.size)) (j.toNat-i.toNat) (m-i.toNat)) ?_
      ⟨⟨_,rfl,rfl⟩,X,z,by omega,λ_=>⟨u,m,aS.kk t.2 S,D,by simp only[minus];omega,by simp only[minus];omega,some (if m=i.toNat then⟨b,0,none⟩ else(⟨b,0,none⟩:Addr).add (i.toNat*u.size)),m-i.toNat,?_,?_,?_,⟨hF,λ_ G=>by rw[t.2] at G;cases G⟩,?_⟩⟩
     .rw[p];simp only[Instr.sliceAt,Sem.run_bind,run_underlying V,Result.andThen_ok,Instr.sureAddr,Sem.run_pure,y,W.sizeOf w]
     .have:(minus j i).toNat=j.toNat-i.toNat:=by simp only[minus];omega
      rw[this]
     .simp only[minus];omega
     .simp only[maxLen];omega
     .by_cases v:m=i.toNat
      .exact .inl (by simp only[minus];omega)
      .refine .inr ⟨b,f,hl,?_⟩;rw[bp v];simp only[addr_add,kL]
    .cases r
   .cases o
  .cases F
 .cases F
end
end Go.Ge
namespace Go.Ge
open RowKit
section
variable {P:Program} {B:Own} {N:Nat} {γ:Gh} {σ aB:St} {a:Act} {w:World} {d:Option Nat} {cx:Ctx}
theorem bg.flat{w q:World}{I I':Nat->Nat->Prop}:∀{t:Ty} {x:t.den} {cs:List Value},t.flat=true->bg w I t x cs->bg q I' t x cs:=by
 intro t;induction t with
 | int k=>intro x cs _ h;exact h
 | bool=>intro x cs _ h;exact h
 | str=>intro x cs _ h;exact h
 | slice e p=>intro x cs f;cases f
 | arr n e p=>intro x cs f h;exact⟨h.1,h.2.1,λi y s=>p f (h.2.2 i y s)⟩
 | pair a b g j =>
   intro x cs f h;simp only[Ty.flat,cA] at f;obtain⟨v,A,C,l,m⟩:=h;exact⟨v,A,C,g f.1 l,j f.2 m⟩
 | unit=>intro x cs _ h;exact h
 | alt u a r g o =>
   intro x cs f h;simp only[Ty.flat,cA] at f;rcases x with y|z
   .obtain⟨l,c,m,D⟩:=h;exact⟨l,c,m,g f.1 D⟩
   .exact o f.2 (show bg w I r z cs from h)
 | rr=>intro x cs _ h;exact h
def qj(w:World)(I:Nat->Nat->Prop)(e:Ty)(l:List e.den)(v:Value):Prop :=
 (l=[]/\∃f b,v=.slice f 0 b/\b<=maxLen/\mN f b) \/
 ∃g h b,v=.slice (some ⟨g,h,none⟩) l.length b/\l.length<=b/\b<=maxLen /\
  ∀(i:Nat) (x:e.den),l[i]?=some x->∃k:List Value,k.length=e.size /\
   (∀(j:Nat) c,k[j]?=some c->w.cell? ⟨g,h+i*e.size+j,none⟩=some c)/\bg w I e x k
theorem ph{I:Nat->Nat->Prop}{e:Ty}{l:List e.den}{f:Nat}{b:Array Value}{k:TypeId}{r:Nat×Nat}(s:w.heap[f]?=some (.cells b k r)){n:Nat}(u:n*e.size<=b.size)
  (h:∀(i:Nat) (x:e.den),l[i]?=some x->bg w I e x ((b.toList.drop<|i*e.size).take e.size)) (v:l.length<=n) (p:Nat) :
  ∀(i:Nat) (x:e.den),(l.drop p)[i]?=some x->∃m:List Value,m.length=e.size /\
   (∀(j:Nat) c,m[j]?=some c->w.cell? ⟨f,p*e.size+i*e.size+j,none⟩=some c)/\bg w I e x m:=by
 intro i x o;rw[pT] at o;have q:=h _ x o;have t:=(sE.1 o).1;refine⟨_,q.length,λj c g=>?_,q⟩;rw[cell_of_heap s];rw[kK] at g;split at g
 .rw[pT] at g;rw[<-o0];simpa using g
 .cases g
theorem ca.row{b:Nat}{bx:aS}{u:Nat->Option aS}(h:ca γ u w b bx){j f:Nat}(v:γ.loc b=some (j,f)) :
  (∀(e:Ty) (l:List e.den),bx.buf=true->bx.val=.data (.slice e) l->∃c tid g,w.heap[j]?=some (.cells c tid g)/\iD c g/\l.length<=f/\f<=maxLen/\c.size=f*e.size/\0<e.size /\
   ∀(i:Nat) (x:e.den),l[i]?=some x->bg w γ.I e x ((c.toList.drop<|i*e.size).take e.size)) /\
  (∀(n:Nat) (e:Ty) (l:List e.den),bx.buf=false->bx.val=.data (.arr n e) l->∃c tid g,w.heap[j]?=some (.cells c tid g)/\iD c g/\l.length=n/\c.size=n*e.size /\
   ∀(i:Nat) (x:e.den),l[i]?=some x->bg w γ.I e x ((c.toList.drop<|i*e.size).take e.size)):=by
 refine⟨λe l y r=>?_,λn e l y r=>?_⟩
 .obtain⟨L,M,C,D,s⟩:=h.Hq y (λ_ q=>by rw[r] at q;cases q);rw[r] at C;cases C;rcases s with ⟨s,_⟩|⟨k,m,c,tid,g,o,z,A,p,t,E,F,G⟩
  .rw[v] at s;cases s
  .rw[v] at o;obtain⟨rfl,rfl⟩:=b8 (aq o);exact⟨c,tid,g,z,A.th,t,E,F,D,G⟩
 .rw[ca,y] at h;obtain⟨k,m,c,tid,g,o,z,A,p,t⟩:=h;rw[v] at o;obtain⟨rfl,rfl⟩:=b8 (aq o);rw[r] at t;obtain⟨H,J,K⟩:=t;exact⟨c,tid,g,z,A,H,by simpa using J,K⟩
theorem s7{u e:Ty}{l:List u.den}{m:List e.den}(h:toL u e l=some m):∃q:u=e,m=q▸l:=gh h
theorem iG{e:Ty}{v:ax}{l:List e.den}(f:ek e σ v=some l) :
  v=.data (.slice e) l\/(v=.jt/\l=[])\/(∃b c g,v=.whole b c/\σ.mem b=some g/\g.au=c/\g.buf=true/\g.val=.data (.slice e) l) \/
  ∃b c o n g,v=.part b c o n/\σ.mem b=some g/\g.au=c/\((g.buf=true/\∃j:List e.den,g.val=.data (.slice e) j/\l=sub j o n)\/(g.buf=false/\∃(k:Nat) (j:List e.den),g.val=.data (.arr k e) j/\l=sub j o n)):=by
 unfold ek at f;split at f
 .obtain⟨q,rfl⟩:=s7 f;subst q;exact .inl rfl
 .exact .inr (.inl ⟨rfl,(aq f).symm⟩)
 .rename_i b c;split at f
  .rename_i g p;cases m:(Nat.beq g.au c&&g.buf) with
   | false=>rw[m,fk] at f;exact absurd f (by simp)
   | true =>
     rw[m,cd] at f;simp only[cA] at m;split at f
     .rename_i u j h;obtain⟨q,rfl⟩:=s7 f;subst q;exact .inr (.inr<|.inl ⟨b,c,g,rfl,p,cG m.1,m.2,h⟩)
     .exact absurd f (by simp)
  .exact absurd f (by simp)
 .rename_i b c o n;split at f
  .rename_i g p;cases m:Nat.beq g.au c with
   | false=>rw[m,fk] at f;exact absurd f (by simp)
   | true =>
     rw[m,cd] at f;split at f
     .rename_i u j i h;obtain⟨q,rfl⟩:=s7 f;subst q;exact .inr (.inr<|.inr ⟨b,c,o,n,g,rfl,p,cG m,.inl ⟨i,j,h,rfl⟩⟩)
     .rename_i r u j i h;obtain⟨q,rfl⟩:=s7 f;subst q;exact .inr (.inr<|.inr ⟨b,c,o,n,g,rfl,p,cG m,.inr ⟨i,r,j,h,rfl⟩⟩)
     .exact absurd f (by simp)
  .exact absurd f (by simp)
 .exact absurd f (by simp)
theorem wm{c:Type}{l:List c}{b n:Int}(e:0<=b)(f:0<=n)(g:b+n<=l.length):(sub l b n).length=n.toNat:=by
 simp only[sub,fj,mJ];omega
theorem kW(Q:aO B γ σ.mem w){e:Ty}{v:ax}{val:Value}{l:List e.den}(R:bw γ σ.mem w v .val [val])(hl:ek e σ v=some l):qj w γ.I e l val:=by
 rcases iG hl with rfl|⟨rfl,rfl⟩|⟨b,U,H,rfl,z,r,g,f⟩|⟨b,U,D,n,H,rfl,z,r,V⟩
 .obtain⟨cs,J,y⟩:=cH.1 R;rcases J with ⟨⟨p,J⟩,W⟩|⟨o,X,h,J,W,h3,h4⟩
  .exact .inl ⟨W,p,0,by rw[y,J];rfl,jO _,.inl rfl⟩
  .refine .inr ⟨o,X,h,by rw[y,J];rfl,W,h3,λi x A=>?_⟩;obtain⟨es,K,u,s⟩:=h4 i x A;exact⟨es,K,λj c hj=>(u j c hj).1,s⟩
 .obtain rfl:val=_:=by simpa [bw] using R
  exact .inl ⟨rfl,none,0,rfl,jO _,.inl rfl⟩
 .obtain⟨e',n',K,u,s⟩:=aC z r R.2;rw[aS.ck K f] at u;obtain⟨rfl,rfl⟩:=b8 (aq u);rcases s with ⟨s,E⟩|⟨o,h,s,E⟩
  .obtain rfl:val=_:=by simpa using E
   have Y:=Q.boxes b H z;obtain⟨e2,l2,Z,j2,S⟩:=Y.Hq K (λ_ q=>by rw[f] at q;cases q);rw[f] at Z;cases Z;rcases S with ⟨_,j4⟩|⟨_,_,_,_,_,S,_⟩
   .exact .inl ⟨j4,none,0,rfl,jO _,.inl rfl⟩
   .rw[s] at S;exact absurd S (by simp)
  .obtain rfl:val=_:=by simpa using E
   obtain⟨L,tid,fr,M,q2,F,q4,q5,q6,O⟩:=((Q.boxes b H z).row s).1 _ l K f;refine .inr ⟨o,0,h,rfl,F,q4,λi x A=>?_⟩;have:=ph M (n:=h) (by omega) O F 0 i x A;rw[CG] at this;exact this
 .obtain⟨e',k,u,s,E,g5,p,h,g6,g7,T,gF,t⟩:=aC z r R.2;obtain rfl:val=_:=by simpa using g6
  rcases V with ⟨g,G,f,rfl⟩|⟨g,k0,G,f,rfl⟩
  .rw[aS.ck g f] at u;obtain⟨rfl,rfl⟩:=b8 (aq u);have hlen:=wm s E g5;rcases t with t|⟨o,c,t,C⟩
   .subst t;exact .inl ⟨by simp[sub],p,h,rfl,T,gF.1⟩
   .obtain⟨L,tid,fr,M,q2,F,q4,q5,q6,O⟩:=((Q.boxes b H z).row t).1 _ G g f;refine .inr ⟨o,D.toNat*e.size,h,by rw[C,hlen],by rw[hlen];exact g7,T,λi x A=>?_⟩;have m:((List.drop D.toNat G).take n.toNat)[i]?=some x:=A;rw[kK] at m;split at m
    .exact ph M (n:=c) (by omega) O F D.toNat i x m
    .exact absurd m (by simp)
  .rw[aS.kk g f] at u;obtain⟨rfl,rfl⟩:=b8 (aq u);rcases t with t|⟨o,c,t,C⟩
   .subst t;exact .inl ⟨by simp[sub],p,h,rfl,T,gF.1⟩
   .obtain⟨L,tid,fr,M,q2,F,q5,O⟩:=((Q.boxes b H z).row t).2 _ _ G g f;have hlen:=wm (l:=G) s E (by rw[F];exact g5);refine .inr ⟨o,D.toNat*e.size,h,by rw[C,hlen],by rw[hlen];exact g7,T,λi x A=>?_⟩;have m:((List.drop D.toNat G).take n.toNat)[i]?=some x:=A;rw[kK] at m;split at m
    .exact ph M (n:=k0) (by omega) O (by omega) D.toNat i x m
    .exact absurd m (by simp)
theorem xi{I:Nat->Nat->Prop}{e:Ty}{g:Nat}:∀{l:List e.den} {off:Nat},(∀(i:Nat) (x:e.den),l[i]?=some x->∃k:List Value,k.length=e.size /\
   (∀(j:Nat) c,k[j]?=some c->w.cell? ⟨g,off+i*e.size+j,none⟩=some c)/\bg w I e x k) ->
  ∃b:List Value,b.length=l.length*e.size/\(∀(j:Nat) c,b[j]?=some c->w.cell? ⟨g,off+j,none⟩=some c)/\(∀c∈b,c.oneCell'=true) /\
   ∀(i:Nat) (x:e.den),l[i]?=some x->bg w I e x ((b.drop<|i*e.size).take e.size):=by
 intro l;induction l with
 | nil=>intro off h;exact⟨[],by simp,by simp,by simp,by simp⟩
 | cons s r u =>
   intro off h;obtain⟨k,n,v,t⟩:=h 0 s rfl;obtain⟨b,y,z,A,C⟩:=u (off:=off+e.size) λi x o=>by
    obtain⟨p,D,E,F⟩:=h (i+1) x (by simpa using o);refine⟨p,D,λj c f=>?_,F⟩;have:=E j c f;rw[p6] at this;rw[<-this];congr 2;omega
   refine⟨k++b,by rw[l9,n,y,gA,p6];omega,λj c f=>?_,λc m=>?_,λi x o=>?_⟩
   .rw[Jj] at f;split at f
    .have:=v j c f;simpa using this
    .rename_i G;have:=z _ c f;rw[<-this];congr 2;omega
   .rcases lW.1 m with m|m
    .exact t.one c m
    .exact A c m
   .cases i with
    | zero =>
      obtain rfl:s=x:=by simpa using o
      rw[CG,zU,<-n,zV];exact t
    | succ i =>
      have q:r[i]?=some x:=by simpa using o
      rw[p6,Gr,<-oZ,<-n,rV,n];exact C i x q
theorem s8(h:b6 B N γ σ a w){b:Nat}{i:aS}{e:Ty}{n:Nat}(p:σ.mem b=some i)(m:i.row=some (e,n))(g:freeze σ b=some aB) :
  ∃bc,b6 B N bc aB a w/\Ext B γ σ.mem w bc aB.mem w/\bc.loc=γ.loc/\∀j k l,γ.loc b=some (j,k)->l<n*e.size->bc.I j l:=by
 obtain⟨m1,q⟩:=h.ok.freeze p m;have r:aB={ slots:=σ.slots,mem:=bq σ.mem b { i with ro:=true } }:=by
  unfold freeze at g;rw[p] at g;cases f:i.ro with
  | true =>
    simp only[f,cd,j7] at g;subst g;have:bq σ.mem b { i with ro:=true }=σ.mem:=by
     funext c;by_cases e:c=b
     .subst e;rw[aJ,p];congr 1;cases i;simp only at f;subst f;rfl
     .rw[az _ e]
    rw[this]
  | false =>
    simp only[f,fk] at g;cases o:i.lk with
    | true=>simp[o] at g
    | false=>simp only[o,fk,j7] at g;subst g;rfl
 subst r;exact⟨_,h.go q m1,q,rfl,λj k l s t=>.inr ⟨⟨k,s⟩,t⟩⟩
theorem qj.data{g:Gh}{e:Ty}{l:List e.den}{val:Value}(h:qj w γ.I e l val)(r:∀b o,γ.I b o->g.I b o)
  (s:∀f off cap,val=.slice (some ⟨f,off,none⟩) l.length cap->∀j,j<l.length*e.size->g.I f (off+j)):bg w g.I (.slice e) l [val]:=by
 rcases h with ⟨rfl,base,cap,k,n,p⟩|⟨f,off,cap,k,n,p,t⟩
 .rcases p with rfl|⟨f,off,rfl⟩
  .exact .inl ⟨⟨base,by rw[k]⟩,rfl⟩
  .exact .inr ⟨f,off,cap,by rw[k];rfl,jO _,n,λi x m=>by cases m⟩
 .refine .inr ⟨f,off,cap,by rw[k],n,p,λi x m=>?_⟩;obtain⟨es,u,v,y⟩:=t i x m;have z:i<l.length:=(sE.1 m).1;refine⟨es,u,λj c q=>⟨v j c q,?_⟩,bg.mono r (λ_ _ _=>rfl) y⟩;have A:j<e.size:=by have:=(sE.1 q).1;omega
  have:(i+1)*e.size<=l.length*e.size:=lz _ z;rw[p6] at this;rw[ud];exact s f off cap k _ (by omega)
theorem s9(h:b6 B N γ σ a w){e:Ty}{v:ax}{i:Value}{l:List e.den}(D:bw γ σ.mem w v .val [i])(V:ek e σ v=some l)(H:eA σ v=some aB) :
  ∃bc,b6 B N bc aB a w/\Ext B γ σ.mem w bc aB.mem w/\bg w bc.I (.slice e) l [i]:=by
 have s:=kW h.ok D V;rcases iG V with rfl|⟨rfl,rfl⟩|⟨b,L,W,rfl,y,p,f,o⟩|⟨b,L,lo,n,W,rfl,y,p,M⟩
 .obtain rfl:=aq H;obtain⟨cs,X,g⟩:=cH.1 D;have:cs=[i]:=by
   obtain⟨c,rfl⟩:=Gg.1 X.length;rw[g];rfl
  exact⟨γ,h,Ext.refl _ _ _ _,by rw[<-this];exact X⟩
 .obtain rfl:=aq H;obtain rfl:i=_:=by simpa [bw] using D
  exact⟨γ,h,Ext.refl _ _ _ _,.inl ⟨⟨none,rfl⟩,rfl⟩⟩
 .obtain⟨bc,O,E,s3,Q⟩:=s8 h y (aS.ck f o) H;refine⟨bc,O,E,s.data E.I λF R S g j z=>?_⟩;obtain⟨Y,n',g1,A,x⟩:=aC y p D.2;rcases x with ⟨x,C⟩|⟨q,t,x,C⟩
  .obtain rfl:i=_:=by simpa using C
   injection g with m J K
   rw[<-J,CG] at z;omega
  .obtain rfl:i=_:=by simpa using C
   injection g with m J K
   injection m with m
   injection m with m T
   subst m;subst T;rw[kL];exact Q q t j x z
 .obtain⟨Y,k,A,x,C,Z,base,S,g6,g7,g8,gF,r⟩:=aC y p D.2;obtain rfl:i=_:=by simpa using g6
  have U:e=Y/\l.length=n.toNat:=by
   rcases M with ⟨f,l0,o,rfl⟩|⟨f,k0,l0,o,rfl⟩
   .rw[aS.ck f o] at A;obtain⟨rfl,rfl⟩:=b8 (aq A);exact⟨rfl,wm x C Z⟩
   .rw[aS.kk f o] at A;obtain⟨rfl,rfl⟩:=b8 (aq A);rcases r with r|⟨F,c,r,G⟩
    .subst r;exact⟨rfl,by simp[sub]⟩
    .obtain⟨cur,tid,fr,m,J,K,q5,q7⟩:=((h.ok.boxes b W y).row r).2 _ _ l0 f o;exact⟨rfl,wm x C (by rw[K];exact Z)⟩
  obtain⟨rfl,u⟩:=U;obtain⟨bc,O,E,s3,Q⟩:=s8 h y A H;refine⟨bc,O,E,s.data E.I λF R t g j z=>?_⟩;rcases r with r|⟨q,c,r,G⟩
  .rw[u,r] at z;simp at z
  .injection g with m J K
   rw[G] at m;injection m with m
   injection m with m T
   subst m;subst T;refine Q q c _ r ?_;have:(lo.toNat+n.toNat)*e.size<=k*e.size:=lz _ (by omega);rw[o0] at this;rw[u] at z;omega
theorem rH{e:Ty}{v:ax}{l:List e.den}{b:Nat}(h:ek e σ v=some l)(k:freeze σ b=some aB):ek e aB v=some l:=by
 have z:∀c j,σ.mem c=some j->∃r,aB.mem c=some { j with ro:=r }:=by
  intro c j q;unfold freeze at k;split at k
  .rename_i p t;cases m:p.ro with
   | true=>simp only[m,cd,j7] at k;subst k;exact⟨j.ro,q⟩
   | false =>
     cases o:p.lk with
     | true=>simp[m,o] at k
     | false =>
       simp only[m,o,fk,j7] at k;subst k;by_cases e:c=b
       .subst e;rw[t] at q;obtain rfl:=aq q;exact⟨true,by simp[St.bI,o]⟩
       .exact⟨j.ro,by simp[St.bI,fm e,q]⟩
  .cases k
 rcases iG h with rfl|⟨rfl,rfl⟩|⟨c,u,j,rfl,x,g,f,i⟩|⟨c,u,C,n,j,rfl,x,g,y⟩
 .exact h
 .rfl
 .obtain⟨r,s⟩:=z c j x;simp only[ek,s,g,f,i,uf,Bool.and_self,cd];simp[toL,Ty.beq_refl]
 .obtain⟨r,s⟩:=z c j x;rcases y with ⟨f,A,i,rfl⟩|⟨f,D,A,i,rfl⟩
  .simp only[ek,s,g,f,i,uf,cd];simp[toL,Ty.beq_refl]
  .simp only[ek,s,g,f,i,uf,cd];simp[toL,Ty.beq_refl]
theorem tc{s r:Ty}{p q:ax}{x:(Ty.pair s r).den}(h:jv σ (.pair s r) (.mix p q)=some x):∃(y:s.den) (z:r.den),jv σ s p=some y/\jv σ r q=some z/\x=(y,z):=by
 replace h:(match jv σ s p,jv σ r q with
  | some x,some y=>some ((x,y):(Ty.pair s r).den)
  | _,_=>none)=some x:=h
 split at h
 .rename_i y z b c;exact⟨y,z,b,c,(aq h).symm⟩
 .exact absurd h (by simp)
theorem z8{s r:Ty}{p q:ax}{y:s.den}{z:r.den}(b:jv σ s p=some y)(c:jv σ r q=some z):jv σ (.pair s r) (.mix p q)=some ((y,z):(Ty.pair s r).den):=by
 show(match jv σ s p,jv σ r q with
  | some x,some y=>some ((x,y):(Ty.pair s r).den)
  | _,_=>none)=some (y,z)
 rw[b,c]
theorem nC{p q:ax}(h:eA σ (.mix p q)=some aB):∃aV,eA σ p=some aV/\eA aV q=some aB:=by
 unfold eA at h;split at h
 .rename_i aV b;exact⟨aV,b,h⟩
 .exact absurd h (by simp)
theorem jW{t:Ty}:∀{x:t.den},jv σ t .lA=some x->(∀w I,bg w I t x [.nilIface])/\(∀τ:St,jv τ t .lA=some x)/\bX t [.nilIface]=.nilIface/\t.isAgg=false:=by
 induction t with
 | alt u a r g c =>
   intro x h;have h:(match jv σ r .lA with|some x=>some (Sum.inr x)|none=>none:Option (a.den⊕r.den))=some x:=h;cases f:jv σ r .lA with
   | none=>rw[f] at h;cases h
   | some y =>
     rw[f] at h;obtain rfl:=aq h;obtain⟨i,j,k,l⟩:=c f;refine⟨λw I=>i w I,λτ=>?_,k,l⟩;show(match jv τ r .lA with|some x=>some (Sum.inr x)|none=>none:Option (a.den⊕r.den))=_
     rw[j τ];rfl
 | rr=>intro x h;obtain rfl:()=x:=aq h;exact⟨λw I=>rfl,λτ=>rfl,rfl,rfl⟩
 | slice e=>intro x h;cases h
 | pair a b=>intro x h;cases h
 | _=>intro x h;cases h
theorem C0:∀{v:ax} {t:Ty} {x:t.den} {σ aB:St} {u:ax},jv σ t v=some x->eA σ u=some aB->jv aB t v=some x:=by
 have one:∀{u:ax} {e:Ty} {v:ax} {l:List e.den} {σ aB:St},ek e σ v=some l->eA σ u=some aB->ek e aB v=some l:=by
  intro u;induction u with
  | mix p q f g =>
    intro e v l σ aB h c;simp only[eA] at c;cases i:eA σ p with
    | none=>rw[i] at c;cases c
    | some aV=>rw[i] at c;exact g (f h i) c
  | whole b au=>intro e v l σ aB h c;exact rH h c
  | part b au lo n=>intro e v l σ aB h c;exact rH h c
  | _=>intro e v l σ aB h c;obtain rfl:=aq c;exact h
 intro v;induction v with
 | data u y =>
   intro t x σ aB u h c;cases t with
   | slice e=>exact one h c
   | _=>exact h
 | mix p q f g =>
   intro t x σ aB u h c;cases t with
   | pair s r =>
     obtain⟨y,z,j,k,rfl⟩:=tc h;exact z8 (f j c) (g k c)
   | slice e=>exact one h c
   | _=>cases h
 | lA=>intro t x σ aB u h c;exact(jW h).2.1 _
 | _ =>
   intro t x σ aB u h c;cases t with
   | slice e=>exact one h c
   | _=>cases h
theorem u6{f:Gh}{b:Nat->Option aS}{v:ax}{e:List Value}(h:bw f b w v .cells e)(g:b4 v=1):∃c,e=[c]:=by
 have:=h.length;rw[g] at this;exact Gg.1 this
theorem EH:∀{v:ax} {t:Ty} {x:t.den} {cs:List Value} {σ aB:St} {γ:Gh} {a:Act},b6 B N γ σ a w->bw γ σ.mem w v .cells cs->jv σ t v=some x->eA σ v=some aB ->
  ∃bc,b6 B N bc aB a w/\Ext B γ σ.mem w bc aB.mem w/\bg w bc.I t x cs:=by
 have A:∀{v:ax} {e:Ty} {l:List e.den} {cs:List Value} {σ aB:St} {γ:Gh} {a:Act},b4 v=1->(∀c,bw γ σ.mem w v .cells [c]->bw γ σ.mem w v .val [c])->b6 B N γ σ a w->bw γ σ.mem w v .cells cs->ek e σ v=some l->eA σ v=some aB ->
   ∃bc,b6 B N bc aB a w/\Ext B γ σ.mem w bc aB.mem w/\bg w bc.I (.slice e) l cs:=by
  intro v e l cs σ aB γ a C m h i f j;obtain⟨c,rfl⟩:=u6 i C;exact s9 h (m c i) f j
 intro v;induction v with
 | data u y =>
   intro t x cs σ aB γ a h i f j;obtain rfl:=aq j;have key:(∃q:u=t,x=q▸y):=by
    cases t with
    | slice e =>
      rcases iG (show ek e σ (.data u y)=some x from f) with g|⟨g,_⟩|⟨_,_,_,g,_⟩|⟨_,_,_,_,_,g,_⟩
      .injection g with L M;subst L;exact⟨rfl,(eq_of_heq M).symm⟩
      .cases g
      .cases g
      .cases g
    | _=>exact Ty.fZ f
   obtain⟨q,D⟩:=key;subst q;subst D;exact⟨γ,h,Ext.refl _ _ _ _,i⟩
 | mix p q E F =>
   intro t x cs σ aB γ a h i f j;cases t with
   | pair s r =>
     obtain⟨O,Q,rfl,C,R⟩:=i;obtain⟨y,z,S,D,rfl⟩:=tc f;obtain⟨aV,o,G⟩:=nC j;obtain⟨T,U,K,V⟩:=E h C S o;obtain⟨H,W,J,X⟩:=F U (R.ext K) (C0 D o) G;exact⟨H,W,K.trans J,O,Q,rfl,bg.mono J.I J.cells V,X⟩
   | slice e=>exact absurd f (by intro k;cases k)
   | _=>cases f
 | jt =>
   intro t x cs σ aB γ a h i f j;cases t with
   | slice e=>exact A (v:=.jt) rfl (λc k=>k) h i f j
   | _=>cases f
 | whole b au =>
   intro t x cs σ aB γ a h i f j;cases t with
   | slice e=>exact A (v:=.whole b au) rfl (λc k=>k) h i f j
   | _=>cases f
 | part b au lo n =>
   intro t x cs σ aB γ a h i f j;cases t with
   | slice e=>exact A (v:=.part b au lo n) rfl (λc k=>k) h i f j
   | _=>cases f
 | lA =>
   intro t x cs σ aB γ a h i f j;obtain rfl:=aq j;obtain rfl:cs=[.nilIface]:=i;exact⟨γ,h,Ext.refl ..,(jW f).1 _ _⟩
 | _ =>
   intro t x cs σ aB γ a h i f j;cases t with
   | slice e=>exact absurd f (by intro k;cases k)
   | _=>cases f
theorem iH{t:Ty}{x:t.den}{v:ax}{f:Value}(h:b6 B N γ σ a w)(g:bw γ σ.mem w v .val [f])(i:om σ t v=some (x,aB)) :
  ∃bc,b6 B N bc aB a w/\Ext B γ σ.mem w bc aB.mem w/\bw bc aB.mem w (.data t x) .val [f]:=by
 unfold om at i;split at i
 .rename_i u y;split at i
  .rename_i J D;obtain⟨rfl,rfl⟩:=b8 (aq i);obtain⟨q,E⟩:=Ty.fZ D;subst q;subst E;exact⟨γ,h,Ext.refl _ _ _ _,g⟩
  .cases i
 .split at i
  .rename_i y aV c o;obtain⟨rfl,rfl⟩:=b8 (aq i);cases v with
   | data u F=>rename_i z;exact absurd rfl (z u F)
   | mix p q =>
     obtain⟨A,C,G,H,I⟩:=g;obtain rfl:f=_:=by simpa using G
     obtain⟨bc,j,l,m⟩:=EH h (show bw γ σ.mem w (.mix p q) .cells (A++C) from⟨A,C,rfl,H,I⟩) c o;refine⟨bc,j,l,_,m,?_⟩;cases t with
     | pair s r=>rfl
     | slice e=>exact absurd c (by intro k;cases k)
     | _=>cases c
   | jt =>
     cases t with
     | slice e=>obtain⟨bc,j,l,m⟩:=s9 h g c o;exact⟨bc,j,l,_,m,rfl⟩
     | _=>cases c
   | whole b au =>
     cases t with
     | slice e=>obtain⟨bc,j,l,m⟩:=s9 h g c o;exact⟨bc,j,l,_,m,rfl⟩
     | _=>cases c
   | part b au lo n =>
     cases t with
     | slice e=>obtain⟨bc,j,l,m⟩:=s9 h g c o;exact⟨bc,j,l,_,m,rfl⟩
     | _=>cases c
   | lA =>
     obtain rfl:=aq o;obtain g:[f]=[Value.nilIface]:=g;obtain rfl:f=.nilIface:=by simpa using g
     exact⟨γ,h,Ext.refl ..,[.nilIface],(jW c).1 _ _,by rw[(jW c).2.2.1]⟩
   | _ =>
     cases t with
     | slice e=>exact absurd c (by intro k;cases k)
     | _=>cases c
  .cases i
end
end Go.Ge
