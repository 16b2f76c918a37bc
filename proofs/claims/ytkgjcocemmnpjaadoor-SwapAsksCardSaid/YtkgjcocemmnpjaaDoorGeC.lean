/- A ghost interpreter of the model's code, and that it tells the truth: part 3. It says of a function of plain data what a call of it comes to. -/
import Derived.Test.YtkgjcocemmnpjaaDoorGeB
set_option linter.unusedVariables false
set_option linter.unusedSimpArgs false
set_option linter.unusedSectionVars false
namespace Go.Ge
open RowKit
section
variable {P:Program} {B:iy} {N:Nat} {γ:Gh} {σ σ':St} {a:Act} {w:World} {d:Option Nat} {cx:Ctx}
theorem tC(b c:Bool){xt:TypeId}{x y:Operand}(ht:P.underlying xt=some .bool) :
  (dF .eql xt x y (.bool b) (.bool c)).run P w=.ok (.bool (EC b c)) w∧(dF .neq xt x y (.bool b) (.bool c)).run P w=.ok (.bool (nt (EC b c))) w:=by
 have e:=run_equalIn_bool' (P:=P) w 9999 xt b c ht;constructor<;>simp only[dF,eqGuard_at_bool,binOp,Op.equal,Op.maxDepth,Sem.run_bind,Sem.run_pure,Result.andThen_ok,e]<;>rfl
theorem yl{xt e:TypeId}(ht:P.underlying xt=some (.pointer e))(a b:Option Addr)(h:a=none∨b=none)(n:Nat) :
  (Op.equalIn (n+1) xt (.pointer a) (.pointer b)).run P w=.ok (a.isNone&&b.isNone) w:=by
 cases a with
 | none=>cases b<;>simp only[Op.equalIn,Sem.run_bind,run_underlying ht,Result.andThen_ok]<;>rfl
 | some a=>cases b with
   | none=>simp only[Op.equalIn,Sem.run_bind,run_underlying ht,Result.andThen_ok];rfl
   | some b=>simp at h
theorem kN{xt e:TypeId}{x y:Operand}(ht:P.underlying xt=some (.pointer e))(a b:Option Addr)(h:a=none∨b=none) :
  (dF .eql xt x y (.pointer a) (.pointer b)).run P w=.ok (.bool (a.isNone&&b.isNone)) w∧(dF .neq xt x y (.pointer a) (.pointer b)).run P w=.ok (.bool (!(a.isNone&&b.isNone))) w:=by
 have e:=yl (P:=P) (w:=w) ht a b h 9999;constructor<;>simp only[dF,eqGuard_at_pointer,binOp,Op.equal,Op.maxDepth,Sem.run_bind,Sem.run_pure,Result.andThen_ok,e]
theorem B1(hc:dy P cx){op:BinOp}{xt:TypeId}{x y:Operand}{u v:Value}{p q r:au}(hu:br γ σ.mem w p .val [u])(hv:br γ σ.mem w q .val [v])
  (hr:(bin (find cx.T xt) (bN cx.eo xt) op p q).run=some r):∃z,(dF op xt x y u v).run P w=.ok z w∧br γ σ.mem w r .val [z]:=by
 unfold bin at hr;split at hr
 ·
  obtain⟨rfl,h1⟩:=iZ hu;obtain⟨rfl,h2⟩:=iZ hv;split at hr
  ·rename_i left hs;have hr2:=dn hr;rename_i k n k' m _;cases hz:jS m 0
   ·rw[hz] at hr2;obtain rfl:=aq hr2;exact yh h1 hs hz
   ·rw[hz] at hr2;cases hr2
  ·rename_i hs;obtain⟨hb,hr2⟩:=ah hr;rename_i k n k' m _;have hk:=kT hb;subst hk;exact wU h1 hs hr2
 ·
  obtain⟨rfl,h1⟩:=kM hu;obtain⟨rfl,h2⟩:=kM hv;exact wV hr
 ·
  rename_i b c;obtain rfl:=lR hu;obtain rfl:=lR hv;obtain⟨hb,hr2⟩:=ah hr;have ht:=hc.T _ _ (ek hb);have e:=tC (P:=P) (w:=w) b c (x:=x) (y:=y) ht.bool;split at hr2
  ·rename_i he;obtain rfl:=aq hr2;rcases iz he with ⟨rfl,_⟩|⟨_,h⟩
   ·exact⟨.bool (EC b c),e.1,dz _⟩
   ·cases h
  ·rename_i he;obtain rfl:=aq hr2;rcases iz he with ⟨_,h⟩|⟨rfl,_⟩
   ·cases h
   ·exact⟨.bool (nt (EC b c)),e.2,dz _⟩
  ·cases hr2
 ·
  rename_i ta tb x1 t2 y1;obtain⟨hb,hr2⟩:=ah hr;simp only[cA] at hb;have ht:=hc.T _ _ (ek hb.1);split at hr2
  ·rename_i y2 e uW he;obtain⟨e1,e2⟩:=Ty.eW uW;subst e1;subst e2;split at hr2
   ·rename_i c hce;obtain rfl:=aq hr2;obtain⟨CJ,k1,rfl⟩:=cq.1 hu;obtain⟨Dq,k2,rfl⟩:=cq.1 hv;have hq:=(nW (P:=P) (γ:=γ) (w:=w) (.pair ta tb)).1 10000 xt x1 _ CJ Dq c ht k1 k2 hce (by have:=rR hb.2;omega);obtain⟨fs,j1,j2,j3,j4⟩:=ht.pair;have hg:∀op,(eqGuard op xt x y (.agg CJ.toArray) (.agg Dq.toArray)).run P w=.ok () w:=fun op=>run_eqGuard_agg w op xt x y _ _ j3;rcases iz he with ⟨rfl,rfl⟩|⟨rfl,rfl⟩
    ·refine⟨.bool c,?_,dz _⟩;show(dF .eql xt x y (.agg _) (.agg _)).run P w=_
     simp only[dF,Sem.run_bind,hg,Result.andThen_ok];have Dr:(Op.equalIn 10000 xt (.agg CJ.toArray) (.agg Dq.toArray)).run P w=.ok c w:=hq;rw[run_eql_struct,Dr];rfl
    ·refine⟨.bool (nt c),?_,dz _⟩;show(dF .neq xt x y (.agg _) (.agg _)).run P w=_
     simp only[dF,Sem.run_bind,hg,Result.andThen_ok];have Dr:(Op.equalIn 10000 xt (.agg CJ.toArray) (.agg Dq.toArray)).run P w=.ok c w:=hq;rw[run_neq_struct,Dr];rfl
   ·cases hr2
  ·cases hr2
 ·
  rename_i nn ee x1 t2 y1;obtain⟨hb,hr2⟩:=ah hr;simp only[cA] at hb;have ht:=hc.T _ _ (ek hb.1);split at hr2
  ·rename_i y2 e uW he;obtain⟨e1,e2⟩:=Ty.eW uW;subst e1;subst e2;split at hr2
   ·rename_i c hce;obtain rfl:=aq hr2;obtain⟨CJ,k1,rfl⟩:=cq.1 hu;obtain⟨Dq,k2,rfl⟩:=cq.1 hv;have hq:=(nW (P:=P) (γ:=γ) (w:=w) (.arr nn ee)).1 10000 xt x1 _ CJ Dq c ht k1 k2 hce (by have:=rR hb.2;omega);have j3:=ht.Ij;have hg:∀op,(eqGuard op xt x y (.agg CJ.toArray) (.agg Dq.toArray)).run P w=.ok () w:=fun op=>run_eqGuard_agg w op xt x y _ _ j3;rcases iz he with ⟨rfl,rfl⟩|⟨rfl,rfl⟩
    ·refine⟨.bool c,?_,dz _⟩;show(dF .eql xt x y (.agg _) (.agg _)).run P w=_
     simp only[dF,Sem.run_bind,hg,Result.andThen_ok];have Dr:(Op.equalIn 10000 xt (.agg CJ.toArray) (.agg Dq.toArray)).run P w=.ok c w:=hq;rw[run_eql_struct,Dr];rfl
    ·refine⟨.bool (nt c),?_,dz _⟩;show(dF .neq xt x y (.agg _) (.agg _)).run P w=_
     simp only[dF,Sem.run_bind,hg,Result.andThen_ok];have Dr:(Op.equalIn 10000 xt (.agg CJ.toArray) (.agg Dq.toArray)).run P w=.ok c w:=hq;rw[run_neq_struct,Dr];rfl
   ·cases hr2
  ·cases hr2
 ·
  obtain rfl:u=_:=by simpa [br] using hu
  obtain rfl:v=_:=by simpa [br] using hv
  split at hr
  ·rename_i e hp he;obtain rfl:=aq hr;obtain⟨el,Il⟩:=hc.eo _ hp;have q:=kN (P:=P) (w:=w) (x:=x) (y:=y) Il none none (.inl rfl);rcases iz he with ⟨rfl,rfl⟩|⟨rfl,rfl⟩
   ·exact⟨_,q.1,dz _⟩
   ·exact⟨_,q.2,dz _⟩
  ·cases hr
 ·cases hr
theorem eS{b ag:Nat}(h:live σ b ag=true):∃bx,σ.mem b=some bx∧bx.ag=ag:=by
 unfold live at h;split at h
 ·rename_i bx hb;exact⟨bx,hb,cK h⟩
 ·cases h
theorem aF{mem:Nat→Option aR}{b ag:Nat}{bx:aR}(hb:mem b=some bx)(hv:bx.ag=ag){K:aR→Prop}(h:fI mem b ag K):K bx:=by
 obtain⟨eg,h1,h2,h3⟩:=h;rw[hb] at h1;obtain rfl:=aq h1;exact h3 hv
theorem z8(hc:dy P cx){op:BinOp}{xt:TypeId}{x y:Operand}{u v:Value}{p q r:au}(hu:br γ σ.mem w p .val [u])(hv:br γ σ.mem w q .val [v])
  (hr:(Dd σ (find cx.T xt) (bN cx.eo xt) op p q).run=some r):∃z,(dF op xt x y u v).run P w=.ok z w∧br γ σ.mem w r .val [z]:=by
 unfold Dd at hr;split at hr
 ·rename_i b ag p;obtain⟨hb,hr2⟩:=ah hr;simp only[cA] at hb;obtain⟨bx,gN,aE⟩:=eS hb.1;obtain⟨blk,cap,_,hval⟩:=aF gN aE hu.2;obtain rfl:u=_:=by simpa using hval
  obtain rfl:v=_:=by simpa [br] using hv
  obtain⟨el,Il⟩:=hc.eo _ hb.2;have q:=kN (P:=P) (w:=w) (x:=x) (y:=y) Il (some ⟨blk,bC p,none⟩) none (.inr rfl);split at hr2
  ·rename_i e he;obtain rfl:=aq hr2;rcases iz he with ⟨rfl,rfl⟩|⟨rfl,rfl⟩
   ·exact⟨_,q.1,dz _⟩
   ·exact⟨_,q.2,dz _⟩
  ·cases hr2
 ·rename_i b ag p;obtain⟨hb,hr2⟩:=ah hr;simp only[cA] at hb;obtain⟨bx,gN,aE⟩:=eS hb.1;obtain⟨blk,cap,_,hval⟩:=aF gN aE hv.2;obtain rfl:v=_:=by simpa using hval
  obtain rfl:u=_:=by simpa [br] using hu
  obtain⟨el,Il⟩:=hc.eo _ hb.2;have q:=kN (P:=P) (w:=w) (x:=x) (y:=y) Il none (some ⟨blk,bC p,none⟩) (.inl rfl);split at hr2
  ·rename_i e he;obtain rfl:=aq hr2;rcases iz he with ⟨rfl,rfl⟩|⟨rfl,rfl⟩
   ·exact⟨_,q.1,dz _⟩
   ·exact⟨_,q.2,dz _⟩
  ·cases hr2
 ·exact B1 hc hu hv hr
theorem Ds{op:UnOp}{u:Value}{p r:au}(hu:br γ σ.mem w p .val [u])(hr:(un op p).run=some r):∃z,(Op.unary op u).run P w=.ok z w∧br γ σ.mem w r .val [z]:=by
 unfold un at hr;split at hr
 ·obtain rfl:=lR hu;obtain rfl:=aq hr;exact⟨_,rfl,dz _⟩
 ·obtain⟨rfl,h1⟩:=iZ hu;obtain rfl:=aq hr;exact⟨_,rfl,mkInt (cL _ _)⟩
 ·obtain⟨rfl,h1⟩:=iZ hu;obtain rfl:=aq hr;rename_i k n;refine⟨_,?_,mkInt (cL _ _)⟩;cases hk:k.signed<;>simp[Op.unary,Op.intBits,EV,hk]
 ·cases hr
theorem Dt(hm:aN B γ σ.mem w){b:Nat}{bx:aR}(hb:σ.mem b=some bx){blk cap:Nat}(hl:γ.loc b=some (blk,cap)){p:List oz}{v:au}(hn:(BU bx.buf p bx.val).run=some v) :
  ∃cur tid fr,w.heap[blk]?=some (.cells cur tid fr)∧iw cur fr∧bC p+bL v≤cur.size∧br γ σ.mem w v .cells ((cur.toList.drop (bC p)).take (bL v)):=by
 have eH:=hm.boxes b bx hb;unfold bB at eH;unfold BU at hn;cases aQ:bx.buf with
 | false =>
   rw[aQ] at eH hn;obtain⟨b7,cap',cur,tid,fr,h1,h2,h3,de,h4⟩:=eH;rw[hl] at h1;obtain⟨rfl,rfl⟩:=bY (aq h1);obtain⟨k1,k2⟩:=jW h4 hn;exact⟨cur,tid,fr,h2,h3,by simpa using k1,k2⟩
 | true =>
   rw[aQ] at eH hn;obtain⟨e,l,h1,h2,h3⟩:=eH;rw[h1] at hn;rcases h3 with ⟨h3,_⟩|⟨b7,cap',cur,tid,fr,h3,h4,h5,de,h6,h7,h8,h9⟩
   ·rw[hl] at h3;cases h3
   ·rw[hl] at h3;obtain⟨rfl,rfl⟩:=bY (aq h3);cases p with
    | nil=>cases hn
    | cons s p =>
      cases s with
      | wK k off=>cases hn
      | idx i size =>
        obtain⟨hsb,hn2⟩:=ah hn;have hsz:=cK hsb;obtain⟨x,hx,E4⟩:=bg hn2;obtain⟨h0,hx2⟩:=iR hx;have hr:=h9 _ x hx2;have hrl:=hr.length;have hi:i.toNat<l.length:=(List.getElem?_eq_some_iff.1 hx2).1;have hm2:(i.toNat+1)*e.size≤cap*e.size:=iN _ (by omega);rw[mD] at hm2;obtain⟨k1,k2⟩:=jW (v:=.data e x) (show br γ σ.mem w (.data e x) .cells _ from hr) E4;rw[hrl] at k1;refine⟨cur,tid,fr,h4,h5.th,?_,?_⟩
        ·simp only[bC,hsz];omega
        ·rw[Bg,CZ,lH,qi (by omega)] at k2;simp only[bC,hsz];exact k2
theorem lp{t:Ty}{tid:TypeId}(ht:Den P t tid){blk off:Nat}{x:t.den}{cs:List Value}(qw:aX w γ.I t x cs)(Im:(loadCells ⟨blk,off,none⟩ cs.length).run P w=.ok cs.toArray w)
  (hcell:∀(j:Nat) v,cs[j]?=some v→w.cell? ⟨blk,off+j,none⟩=some v):(loadVar tid ⟨blk,off,none⟩).run P w=.ok (bA t cs) w:=by
 unfold loadVar;rw[Sem.run_bind,ht.agg w,Result.andThen_ok];have hl:=qw.length;cases hag:t.isAgg with
 | true =>
   simp only[iP,Sem.run_bind,ht.sizeOf w,Result.andThen_ok,←hl,Im,Sem.run_pure,bA,hag,gD]
 | false =>
   have hs:=iS hag;rw[hs] at hl;obtain⟨c,rfl⟩:=List.length_eq_one_iff.1 hl;have:=hcell 0 c rfl;simp only[ow] at this;simp[bA,hag,this]
theorem tD:∀{u:Ty} {v:au},x8 u v=true→bL v=u.size:=by
 intro u;induction u with
 | pair a b eN fE =>
   intro v h;cases v with
   | data t x=>obtain rfl:=Ty.eq_of_beq (show Ty.beq t (.pair a b)=true from h);rfl
   | mix p q =>
     obtain⟨h1,h2⟩:=Bool.and_eq_true_iff.1 (show(BV a p&&x8 b q)=true from h);have e1:bL p=a.size:=by
      unfold BV at h1;split at h1
      ·rfl
      ·rename_i t u x _;obtain rfl:=Ty.eq_of_beq h1;rfl
      ·cases h1
     show bL p+bL q=a.size+b.size
     rw[e1,fE h2]
   | _=>cases h
 | _ =>
   intro v h;cases v with
   | data t x=>obtain rfl:=Ty.eq_of_beq h;rfl
   | _=>cases h
theorem B2{u:Ty}{v:au}(h1:BV u v=true):bL v=u.size:=by
 unfold BV at h1;split at h1
 ·rfl
 ·rename_i t u x _;obtain rfl:=Ty.eq_of_beq h1;rfl
 ·cases h1
theorem ym(hc:dy P cx){ty:TypeId}{x:Operand}(h:bP B N γ σ a w)(hr:(fc cx d ty (bz σ x) σ).run=some σ') :
  ∃u val ad,σ'=σ.aD d u∧a.eval x=.pointer (some ad)∧(loadVar ty ad).run P w=.ok val w∧br γ σ.mem w u .val [val]:=by
 have hv:=h.bz x;unfold fc at hr;split at hr
 ·rename_i u y hx;rw[hx] at hv;obtain⟨hb,hr2⟩:=ah hr;obtain rfl:=aq hr2;have ht:=hc.T _ _ (ek hb);obtain⟨blk,off,cs,h1,h2,h3⟩:=hv;obtain h1:a.eval x=_:=by simpa using h1
  have hl:=lp (P:=P) ht h2 (qu h3) (fun j v hj=>(h3 j v hj).1);exact⟨_,_,_,rfl,h1,hl,cs,h2,rfl⟩
 ·rename_i b ag p hx;rw[hx] at hv;split at hr
  ·rename_i bx hb;obtain⟨aE,hr2⟩:=ah hr;have aE:=cK aE;obtain⟨v,hn,eu⟩:=bind_some hr2;obtain⟨xU,fS⟩:=ah eu;obtain rfl:=aq fS;obtain⟨blk,cap,hl,hval⟩:=aF hb aE hv.2;obtain hval:a.eval x=_:=by simpa using hval
   obtain⟨cur,tid,fr,g1,g2,g3,g4⟩:=Dt h.ok hb hl hn;have Ju:=nQ (P:=P) g1 g3;have Jv:=g4.length;have hcells:∀(j:Nat) v',((cur.toList.drop (bC p)).take (bL v))[j]?=some v'→w.cell? ⟨blk,bC p+j,none⟩=some v':=fun j v' hj=>by
    rw[cell_of_heap g1];rw[iO] at hj;split at hj
    ·rw[mz] at hj;simpa using hj
    ·cases hj
   have single:∀(hone:(isAgg ty).run P w=.ok false w) (h1:bL v=1) (qW:∀c,br γ σ.mem w v .cells [c]→br γ σ.mem w v .val [c]),
     ∃u val ad,σ.aD d v=σ.aD d u∧a.eval x=.pointer (some ad)∧(loadVar ty ad).run P w=.ok val w∧br γ σ.mem w u .val [val]:=by
    intro hone h1 qW;rw[h1] at Jv g4 hcells;obtain⟨c,CK⟩:=List.length_eq_one_iff.1 Jv;rw[CK] at g4 hcells;have:=hcells 0 c rfl;simp only[ow] at this;refine⟨_,c,_,rfl,hval,?_,qW c g4⟩;simp[loadVar,hone,this]
   cases v with
   | mix p' q' =>
     rw[show kH cx ty (.mix p' q')=false from rfl,BN] at xU;simp only[lJ] at xU;split at xU
     ·rename_i u hT;have ht:=hc.T _ _ hT;have KO:=tD xU;have hag:Ty.isAgg u=true:=by
       cases u with
       | pair a b=>rfl
       | _=>cases xU
      refine⟨_,.agg ((cur.toList.drop (bC p)).take (bL (.mix p' q'))).toArray,_,rfl,hval,?_,?_⟩
      ·rw[KO] at Ju⊢;simp only[loadVar,Sem.run_bind,ht.agg w,hag,Result.andThen_ok,iP,ht.sizeOf w,Ju,Sem.run_pure]
      ·obtain⟨c1,c2,e1,e2,e3⟩:=g4;exact⟨c1,c2,by rw[e1],e2,e3⟩
     ·cases xU
   | data u y =>
     rw[show lJ cx ty (.data u y)=false from rfl,C7] at xU;have ht:=hc.T _ _ (ek xU);have zH:=lp (P:=P) ht g4 (by rw[Jv];exact Ju) hcells;exact⟨_,_,_,rfl,hval,zH,_,g4,rfl⟩
   | whole b' Aa =>
     rw[show lJ cx ty (.whole b' Aa)=false from rfl,C7] at xU;simp only[kH] at xU;split at xU
     ·rename_i e hT;exact single (by have:=(hc.T _ _ hT).agg w;exact this) rfl (fun c k=>k)
     ·cases xU
   | ptr b' Aa p'=>exact single ((hc.iY _ (by simpa [lJ,kH] using xU)).1 w) rfl (fun c k=>k)
   | ij=>exact single ((hc.iY _ (by simpa [lJ,kH] using xU)).1 w) rfl (fun c k=>k)
   | fn f caps=>exact single ((hc.iY _ (by simpa [lJ,kH] using xU)).1 w) rfl (fun c k=>k)
   | _=>cases xU
  ·cases hr
 ·cases hr
theorem tE(hc:dy P cx){ty:TypeId}{x:Operand}(h:bP B N γ σ a w)(hd:∀k,d=some k→k<N)(hr:(fc cx d ty (bz σ x) σ).run=some σ') :
  gh P B N γ σ a w d (Instr.loadAt ty (a.eval x)) σ':=by
 obtain⟨u,val,ad,rfl,h1,h2,h3⟩:=ym hc h hr;refine aU h hd ?_ h3;rw[h1];simp only[Instr.loadAt,Instr.sureAddr,Sem.run_bind,Sem.run_pure,Result.andThen_ok,h2]
end
end Go.Ge
namespace Go.Ge
open RowKit
section
variable {P:Program} {B:iy} {N:Nat} {γ:Gh} {σ σ':St} {a:Act} {w:World} {d:Option Nat} {cx:Ctx}
theorem qX{s:TypeId}{fs:Array Field}{k:Nat}{f:Field}{u:Ty}(hs:P.underlying s=some (.struct fs))(hf:fs.toList[k]?=some f)(hu:Den P u f.type)(h0:0<u.size)(blk off:Nat) :
  (Instr.fieldAt s (.pointer (some ⟨blk,off,none⟩)) k).run P w=.ok (.pointer (some ⟨blk,off+f.offset,none⟩)) w:=by
 have hf':fs[k]?=some f:=by simpa using hf
 have hz:¬(u.size=0):=by omega
 simp only[Instr.fieldAt,Sem.run_bind,run_underlying hs,Result.andThen_ok,hf',Instr.sureAddr,Sem.run_pure,fieldPlace,hu.sizeOf w,dW hz,addr_add]
theorem wW{s:TypeId}{fs:Array Field}{k:Nat}{f:Field}{i:TypeInfo}(hs:P.underlying s=some (.struct fs))(hf:fs.toList[k]?=some f)(hi:P.info? f.type=some i)(h0:0<i.size)(blk off:Nat) :
  (Instr.fieldAt s (.pointer (some ⟨blk,off,none⟩)) k).run P w=.ok (.pointer (some ⟨blk,off+f.offset,none⟩)) w:=by
 have hf':fs[k]?=some f:=by simpa using hf
 have hz:¬(i.size=0):=by omega
 have hsz:(Go.sizeOf f.type).run P w=.ok i.size w:=by simp[Go.sizeOf,typeInfo,hi]
 simp only[Instr.fieldAt,Sem.run_bind,run_underlying hs,Result.andThen_ok,hf',Instr.sureAddr,Sem.run_pure,fieldPlace,hsz,dW hz,addr_add]
theorem oD{t:Ty}{s:TypeId}(ht:Den P t s){k:Nat}{u:Ty}{o:Nat}(hu:jA t k=some u)(ho:eE t k=some o) :
  ∃(fs:Array Field) (f:Field),P.underlying s=some (.struct fs)∧fs.toList[k]?=some f∧f.offset=o∧Den P u f.type∧0<u.size:=by
 cases t with
 | pair a b =>
   obtain⟨fs,h1,h2,_⟩:=ht.pair;obtain⟨f,k1,k2,k3,k4⟩:=h2.at hu ho;exact⟨fs,f,h1,k1,by omega,k3,k4⟩
 | _=>cases k<;>cases hu
theorem nR(hc:dy P cx){s:TypeId}{x:Operand}{k:Nat}(h:bP B N γ σ a w)(hd:∀k,d=some k→k<N)(hr:(cF cx d s (bz σ x) k σ).run=some σ') :
  gh P B N γ σ a w d (Instr.fieldAt s (a.eval x) k) σ':=by
 have hv:=h.bz x;unfold cF at hr;split at hr
 ·rename_i u y hx;rw[hx] at hv;obtain⟨hb,hr2⟩:=ah hr;have ht:=hc.T _ _ (ek hb);split at hr2
  ·rename_i o t z hf;obtain rfl:=aq hr2;obtain⟨blk,off,cs,h1,h2,h3⟩:=hv;obtain h1:a.eval x=_:=by simpa using h1
   obtain⟨t',z',e1,e2,e3,e4,e5⟩:=oC (w:=w) h2 (show gz u y k=some (o,.data t z) from hf);cases e1;obtain⟨fs,f,g1,g2,g3,g4,g5⟩:=oD ht e2 e3;refine aU h hd (by rw[h1];exact qX g1 g2 g4 g5 blk off) ⟨blk,off+f.offset,(cs.drop o).take t.size,rfl,e5,fun j v hj=>?_⟩;rw[iO] at hj;split at hj
   ·rw[mz] at hj;have:=h3 _ v hj;rw[g3,qj];exact this
   ·cases hj
  ·cases hr2
 ·rename_i b ag p hx;rw[hx] at hv;obtain⟨hb,hr2⟩:=ah hr;obtain⟨bx,gN,aE⟩:=eS hb;split at hr2
  ·rename_i t hT;split at hr2
   ·rename_i off u ho hu;obtain rfl:=aq hr2;obtain⟨blk,cap,hl,hval⟩:=aF gN aE hv.2;obtain hval:a.eval x=_:=by simpa using hval
    obtain⟨fs,f,g1,g2,g3,g4,g5⟩:=oD (hc.T _ _ hT) hu ho;refine aU h hd (by rw[hval];exact qX g1 g2 g4 g5 blk (bC p)) ⟨⟨_,rfl,rfl⟩,bx,gN,by omega,fun _=>⟨blk,cap,hl,?_⟩⟩;rw[mL,g3];simp[bC]
   ·cases hr2
  ·split at hr2
   ·rename_i fs hO;split at hr2
    ·rename_i off ho;obtain rfl:=aq hr2;obtain⟨blk,cap,hl,hval⟩:=aF gN aE hv.2;obtain hval:a.eval x=_:=by simpa using hval
     obtain⟨gs,f,i,g1,g2,g3,g4,g5⟩:=E3 (hc.jz _ _ hO) ho;refine aU h hd (by rw[hval];exact wW g1 g2 g4 g5 blk (bC p)) ⟨⟨_,rfl,rfl⟩,bx,gN,by omega,fun _=>⟨blk,cap,hl,?_⟩⟩;rw[mL,g3];simp[bC]
    ·cases hr2
   ·cases hr2
 ·cases hr
theorem yo(hc:dy P cx){xt:TypeId}{k o:Nat}{u:Ty}{y:u.den}{v:au}{val:Value}(hu:find cx.T xt=some u)(hv:br γ σ.mem w (.data u y) .val [val])(hf:fG (.data u y) k=some (o,v)) :
  ∃z,(Instr.field xt val k).run P w=.ok z w∧br γ σ.mem w v .val [z]:=by
 have ht:=hc.T _ _ hu;obtain⟨cs,h1,rfl⟩:=cq.1 hv;obtain⟨t',z',rfl,e2,e3,e4,e5⟩:=oC (w:=w) h1 hf;obtain⟨fs,f,g1,g2,g3,g4,g5⟩:=oD ht e2 e3;have Jw:u.isAgg=true:=by cases u<;>first|rfl|(cases k<;>cases e2)
 refine⟨bA t' ((cs.drop o).take t'.size),?_,⟨_,e5,rfl⟩⟩;have hf':fs[k]?=some f:=by simpa using g2
 have hp:=nD (P:=P) (w:=w) g4 (cs:=cs.toArray) (off:=f.offset) (by rw[g3];simpa using e4) iS;simp only[bA,Jw,gD,Instr.field,Sem.run_bind,run_underlying g1,Result.andThen_ok,hf',asAgg,Sem.run_pure,hp];rw[g3]
theorem fJ{t bX:TypeId}{sz:Nat}(ht:P.underlying t=some (.slice bX))(hs:(Go.sizeOf bX).run P w=.ok sz w)(blk off len cap:Nat)(k:IntKind){i:Int}(h0:0≤i)(h1:i<len) :
  (Instr.indexAt t (.slice (some ⟨blk,off,none⟩) len cap) (.int k i)).run P w=.ok (.pointer (some ⟨blk,off+i.toNat*sz,none⟩)) w:=by
 simp only[Instr.indexAt,asIntOf,Sem.run_bind,Sem.run_pure,Result.andThen_ok,run_underlying ht,sU,h0,h1,iP,hs,addr_add]
theorem mg{t bX:TypeId}{sz n:Nat}(ht:P.underlying t=some (.array n bX))(hs:(Go.sizeOf bX).run P w=.ok sz w)(blk off:Nat)(k:IntKind){i:Int}(h0:0≤i)(h1:i<n) :
  (Instr.indexAt t (.pointer (some ⟨blk,off,none⟩)) (.int k i)).run P w=.ok (.pointer (some ⟨blk,off+i.toNat*sz,none⟩)) w:=by
 simp only[Instr.indexAt,asIntOf,Sem.run_bind,Sem.run_pure,Result.andThen_ok,run_underlying ht,Instr.sureAddr,sU,h0,h1,iP,hs,addr_add]
theorem mO{i n:Int}(h:within i n=true):0≤i∧i<n:=by
 simp only[within,cA,u5] at h;exact h
theorem fK{i j n:Int}(h:inside i j n=true):0≤i∧i≤j∧j≤n:=by
 simp only[inside,cA,u5] at h;exact⟨h.1.1,h.1.2,h.2⟩
theorem pz{b ag:Nat}{e:Ty}{n:Int}(h:lK σ b ag=some (e,n)):∃(bx:aR) (k:Nat),σ.mem b=some bx∧bx.ag=ag∧bx.row=some (e,k)∧n=k:=by
 unfold lK at h;split at h
 ·rename_i bx hb;cases aE:Nat.beq bx.ag ag with
  | false=>rw[aE] at h;cases h
  | true =>
    rw[aE] at h;simp only[gD] at h;split at h
    ·rename_i e' l aQ hval;obtain⟨rfl,rfl⟩:=bY (aq h);exact⟨bx,_,hb,cK aE,by rw[aR.row,aQ,hval],rfl⟩
    ·rename_i n' e' l aQ hval;obtain⟨rfl,rfl⟩:=bY (aq h);exact⟨bx,_,hb,cK aE,by rw[aR.row,aQ,hval],rfl⟩
    ·cases h
 ·cases h
theorem aR.bQ{bx:aR}{e:Ty}{l:List e.den}(hb:bx.buf=true)(hv:bx.val=.data (.slice e) l):bx.row=some (e,l.length):=by rw[aR.row,hb,hv]
theorem aR.gU{bx:aR}{e:Ty}{n:Nat}{l:(Ty.arr n e).den}(hb:bx.buf=false)(hv:bx.val=.data (.arr n e) l):bx.row=some (e,n):=by rw[aR.row,hb,hv]
theorem lS(hc:dy P cx){t e:Nat}(h:vL cx t=some e):P.underlying t=some (.slice e)∧bN cx.iY e=true:=by
 unfold vL at h;split at h
 ·cases h
 ·split at h
  ·rename_i u hu;cases hm:bN cx.iY u with
   | false=>rw[hm] at h;cases h
   | true =>
     rw[hm] at h;obtain rfl:=aq h;exact⟨hc.els _ _ hu,hm⟩
  ·cases h
theorem Ab{b ag:Nat}{i:Int}:∀{m k:Nat},(sX d b ag σ i m k).run=some σ'→∃j:Nat,k≤j∧j<k+m∧i=j∧σ'=σ.aD d (.ptr b ag [.wK j j]):=by
 intro m;induction m with
 | zero=>intro k hr;cases hr
 | succ m ih =>
   intro k hr;have hn:=dn hr;cases hi:cX i k with
   | true =>
     rw[hi] at hn;obtain rfl:=aq hn;exact⟨k,en _,by omega,by simpa [cX] using hi,rfl⟩
   | false =>
     rw[hi] at hn;obtain⟨j,h1,h2,h3,h4⟩:=ih hn;exact⟨j,by omega,by omega,h3,h4⟩
theorem qY{q:List oz}(h:sC q=true):bC q=0:=by
 unfold sC at h;split at h
 ·simp[bC,cK h]
 ·cases h
theorem jh(hc:dy P cx){ty:TypeId}{x:Operand}{ki:IntKind}{i:Int}(h:bP B N γ σ a w)(hd:∀k,d=some k→k<N)(hr:(cu cx d ty (bz σ x) i σ).run=some σ') :
  gh P B N γ σ a w d (Instr.indexAt ty (a.eval x) (.int ki i)) σ':=by
 have hv:=h.bz x;unfold cu at hr;split at hr
 ·rename_i u e l hT hx;rw[hx] at hv;obtain⟨hb,hr2⟩:=ah hr;obtain rfl:=Ty.eq_of_beq hb;obtain⟨y,hy,eu⟩:=bg hr2;obtain rfl:=aq eu;obtain⟨h0,uW⟩:=iR hy;obtain⟨bX,k1,k2,k3,k4⟩:=(hc.T _ _ hT).slice;obtain⟨cs,h1,hval⟩:=cq.1 hv;have hi:i.toNat<List.length (α:=u.den) l:=(List.getElem?_eq_some_iff.1 uW).1;rcases h1 with ⟨_,h1⟩|⟨blk,off,cap,h1,h2,h3,h4⟩
  ·exfalso;have:List.length (α:=u.den) l=0:=by rw[show l=([]:List u.den) from h1];rfl
   omega
  ·rw[h1] at hval;have qW:a.eval x=.slice (some ⟨blk,off,none⟩) (List.length (α:=u.den) l) cap:=hval;obtain⟨es,g1,g2,g3⟩:=h4 _ y uW;refine aU h hd (by rw[qW];exact fJ k1 (k2.sizeOf w) blk off _ cap ki h0 (by omega)) ⟨blk,off+i.toNat*u.size,es,rfl,g3,fun j v hj=>?_⟩;exact g2 j v hj
 ·rename_i m u n e l hT hx;rw[hx] at hv;obtain⟨hb,hr2⟩:=ah hr;simp only[cA] at hb;obtain rfl:=Ty.eq_of_beq hb.1;obtain rfl:=cK hb.2;obtain⟨y,hy,eu⟩:=bg hr2;obtain rfl:=aq eu;obtain⟨h0,uW⟩:=iR hy;obtain⟨bX,k1,k2,k3⟩:=(hc.T _ _ hT).arr;obtain⟨blk,off,cs,h1,h2,h3⟩:=hv;obtain h1:a.eval x=_:=by simpa using h1
  have hi:i.toNat<m:=by have:=(List.getElem?_eq_some_iff.1 uW).1;have:=h2.1;omega
  have fS:=h2.2.2 _ y uW;refine aU h hd (by rw[h1];exact mg k1 (k2.sizeOf w) blk off ki h0 (by omega)) ⟨blk,off+i.toNat*u.size,_,rfl,fS,fun j v hj=>?_⟩;rw[iO] at hj;split at hj
  ·rw[mz] at hj;have:=h3 _ v hj;rw[qj];exact this
  ·cases hj
 ·rename_i u b ag hT hx;rw[hx] at hv;split at hr
  ·rename_i e n he;obtain⟨hb,hr2⟩:=ah hr;obtain rfl:=Ty.eq_of_beq hb;obtain⟨hw,eu⟩:=bu hr2;obtain rfl:=aq eu;obtain⟨h0,h1⟩:=mO hw;obtain⟨bx,k,gN,aE,hrow,rfl⟩:=pz he;obtain⟨bX,k1,k2,k3,k4⟩:=(hc.T _ _ hT).slice;obtain⟨e',n',g1,g2,g3⟩:=aF gN aE hv.2;rw[hrow] at g2;obtain⟨rfl,rfl⟩:=bY (aq g2);rcases g3 with ⟨g3,g4⟩|⟨blk,cap,g3,g4⟩
   ·exfalso;have eH:=h.ok.boxes b bx gN;rw[bB,g1] at eH;obtain⟨e2,l,j1,j2,j3⟩:=eH;rcases j3 with ⟨_,j4⟩|⟨_,_,_,_,_,j3,_⟩
    ·rw[aR.bQ g1 j1,j4] at hrow;have:0=k:=by
      have:=(bY (aq hrow)).2;simpa using this
     omega
    ·rw[g3] at j3;cases j3
   ·obtain g4:a.eval x=_:=by simpa using g4
    refine aU h hd (by rw[g4];exact fJ k1 (k2.sizeOf w) blk 0 _ cap ki h0 h1) ⟨⟨_,rfl,rfl⟩,bx,gN,by omega,fun _=>⟨blk,cap,g3,by simp[bC]⟩⟩
  ·cases hr
 ·rename_i u b ag lo n hT hx;rw[hx] at hv;split at hr
  ·rename_i e n2 he;obtain⟨hb,hr2⟩:=ah hr;obtain rfl:=Ty.eq_of_beq hb;obtain⟨hw,eu⟩:=bu hr2;obtain rfl:=aq eu;obtain⟨h0,h1⟩:=mO hw;obtain⟨bx,k,gN,aE,hrow,rfl⟩:=pz he;obtain⟨bX,k1,k2,k3,k4⟩:=(hc.T _ _ hT).slice;obtain⟨e',n',g2,g3,g4,g5,base,cap,g6,g7,g8,gF,g9⟩:=aF gN aE hv.2;rw[hrow] at g2;obtain⟨rfl,rfl⟩:=bY (aq g2);rcases g9 with g9|⟨blk,c,g9,g10⟩
   ·omega
   ·obtain g6:a.eval x=_:=by simpa using g6
    refine aU h hd (by rw[g6,g10];exact fJ k1 (k2.sizeOf w) blk _ _ cap ki h0 (by omega)) ⟨⟨_,rfl,rfl⟩,bx,gN,by omega,fun _=>⟨blk,c,g9,?_⟩⟩;have:(plus lo i).toNat=lo.toNat+i.toNat:=by simp only[plus];omega
    simp only[bC,this,lI,ow]
  ·cases hr
 ·rename_i m u b ag p hT hx;rw[hx] at hv;obtain⟨hb,hr2⟩:=ah hr;obtain⟨bx,gN,aE⟩:=eS hb;obtain⟨hw,eu⟩:=bu hr2;obtain rfl:=aq eu;obtain⟨h0,h1⟩:=mO hw;obtain⟨bX,k1,k2,k3⟩:=(hc.T _ _ hT).arr;obtain⟨blk,cap,hl,hval⟩:=aF gN aE hv.2;obtain hval:a.eval x=_:=by simpa using hval
  refine aU h hd (by rw[hval];exact mg k1 (k2.sizeOf w) blk _ ki h0 h1) ⟨⟨_,rfl,rfl⟩,bx,gN,by omega,fun _=>⟨blk,cap,hl,?_⟩⟩;rw[mL];simp[bC]
 ·rename_i b ag q e0 k0 lo n hT hx;rw[hx] at hv;split at hr
  ·rename_i e he;obtain⟨hb,hr2⟩:=ah hr;simp only[cA,u5] at hb;obtain⟨⟨hq,rfl⟩,hl⟩:=hb;obtain⟨bx,gN,aE⟩:=eS hl;obtain⟨k1,k2⟩:=lS hc he;obtain⟨j,_,hj,rfl,rfl⟩:=Ab hr2;obtain⟨_,blk,c,g1,g2,g3,g4,base,cap,g5,g6,g7⟩:=aF gN aE hv.2;obtain g5:a.eval x=_:=by simpa using g5
   rcases g7 with g7|g7
   ·subst g7;simp at hj
   ·rw[qY hq] at g7;have hj':((j:Nat):Int)<(n.toNat:Int):=by omega
    refine aU h hd (by rw[g5,g7];exact fJ k1 ((hc.iY _ k2).2.1 w) blk _ _ cap ki (by omega) hj') ⟨⟨_,rfl,rfl⟩,bx,gN,by omega,fun _=>⟨blk,c,g1,?_⟩⟩;simp[bC]
  ·cases hr
 ·cases hr
theorem rV(hc:dy P cx){ty:TypeId}{x:Operand}{ki:IntKind}{i:Int}(h:bP B N γ σ a w)(hd:∀k,d=some k→k<N)(hr:(fq cx d ty (bz σ x) i σ).run=some σ') :
  gh P B N γ σ a w d (Instr.indexAt ty (a.eval x) (.int ki i)) σ':=by
 have hv:=h.bz x;unfold fq at hr;split at hr
 ·rename_i b ag q e0 k0 lo n e hx he;rw[hx] at hv;obtain⟨hb,hr2⟩:=ah hr;simp only[cA,u5] at hb;obtain⟨⟨hq,rfl⟩,hl⟩:=hb;obtain⟨bx,gN,aE⟩:=eS hl;obtain⟨k1,k2⟩:=lS hc he;split at hr2
  ·rename_i j;obtain⟨hj,eu⟩:=ah hr2;obtain rfl:=aq eu;have hj:=xW hj;obtain⟨_,blk,c,g1,g2,g3,g4,base,cap,g5,g6,g7⟩:=aF gN aE hv.2;obtain g5:a.eval x=_:=by simpa using g5
   rcases g7 with g7|g7
   ·subst g7;omega
   ·rw[qY hq] at g7;have hj':((j:Nat):Int)<(n.toNat:Int):=by omega
    show gh P B N γ σ a w d (Instr.indexAt ty (a.eval x) (.int ki (j:Int))) _
    refine aU h hd (by rw[g5,g7];exact fJ k1 ((hc.iY _ k2).2.1 w) blk _ _ cap ki (by omega) hj') ⟨⟨_,rfl,rfl⟩,bx,gN,by omega,fun _=>⟨blk,c,g1,?_⟩⟩;simp[bC]
  ·cases hr2
 ·exact jh hc h hd hr
theorem u8_in(b:UInt8):IntKind.u8.min≤u8 b∧u8 b≤IntKind.u8.max:=by
 have:=b.toNat_lt;have h1:IntKind.u8.min=0:=by decide
 have h2:IntKind.u8.max=255:=by decide
 simp only[u8,h1,h2];omega
theorem rW(hc:dy P cx){ty:TypeId}{x:Operand}{ki:IntKind}{i:Int}(h:bP B N γ σ a w)(hd:∀k,d=some k→k<N)(hr:(fu cx d ty (bz σ x) i σ).run=some σ') :
  gh P B N γ σ a w d (Instr.index ty (a.eval x) (.int ki i)) σ':=by
 have hv:=h.bz x;unfold fu at hr;split at hr
 ·rename_i s hT hx;rw[hx] at hv;obtain⟨b,hy,eu⟩:=bg hr;obtain rfl:=aq eu;obtain⟨h0,uW⟩:=iR hy;obtain⟨hval,hl⟩:=kM hv;refine aU h hd (x:=.int .u8 (u8 b)) ?_ (mkInt (u8_in b));rw[hval];have hu:=(hc.T _ _ hT).str;have hg:(⟨List.toArray (show List UInt8 from s)⟩:ByteArray)[i.toNat]?=some b:=by
   have:=(List.getElem?_eq_some_iff.1 uW);obtain⟨q1,q2⟩:=this;have hsz:i.toNat<(⟨List.toArray (show List UInt8 from s)⟩:ByteArray).size:=q1;rw[getElem?_pos (⟨List.toArray (show List UInt8 from s)⟩:ByteArray) i.toNat hsz];exact congrArg some q2
  simp only[Instr.index,asIntOf,Sem.run_bind,Sem.run_pure,Result.andThen_ok,run_underlying hu,h0,iP,hg];rfl
 ·rename_i m u n e l hT hx;rw[hx] at hv;obtain⟨hb,hr2⟩:=ah hr;simp only[cA] at hb;obtain rfl:=Ty.eq_of_beq hb.1;obtain rfl:=cK hb.2;obtain⟨y,hy,eu⟩:=bg hr2;obtain rfl:=aq eu;obtain⟨h0,uW⟩:=iR hy;obtain⟨bX,k1,k2,k3⟩:=(hc.T _ _ hT).arr;obtain⟨cs,h2,hval⟩:=cq.1 hv;have hi:i.toNat<m:=by have:=(List.getElem?_eq_some_iff.1 uW).1;have:=h2.1;omega
  have fS:=h2.2.2 _ y uW;have hm:(i.toNat+1)*u.size≤m*u.size:=iN _ hi;rw[mD] at hm;have hcl:=h2.2.1;have hp:=nD (P:=P) (w:=w) k2 (cs:=cs.toArray) (off:=i.toNat*u.size) (by simp;omega) iS;refine aU h hd (x:=bA u ((cs.drop (i.toNat*u.size)).take u.size)) ?_ ⟨_,fS,rfl⟩;have hi':i<(m:Int):=by omega
  rw[hval];show(Instr.index ty (.agg cs.toArray) (.int ki i)).run P w=_
  simp only[Instr.index,asIntOf,Sem.run_bind,Sem.run_pure,Result.andThen_ok,run_underlying k1,h0,hi',sU,iP,k2.sizeOf w,hp]
 ·cases hr
theorem KP(isSlice:Bool)(len cap:Nat):(Instr.sliceBounds isSlice len cap none none none).run P w=.ok (0,len,cap) w:=by simp[Instr.sliceBounds]
theorem KQ(isSlice:Bool)(len cap:Nat)(k:IntKind){y:Int}(h0:0≤y)(h1:y≤cap):(Instr.sliceBounds isSlice len cap none (some (.int k y)) none).run P w=.ok (0,y.toNat,cap) w:=by
 have c1:(0:Int)≤y∧y≤(cap:Int):=⟨h0,h1⟩;simp only[Instr.sliceBounds,Instr.sliceBound,asIntOf,Sem.run_bind,Sem.run_pure,Result.andThen_ok,c1,sU,iP]
theorem KR(isSlice:Bool)(len cap:Nat)(k:IntKind){y:Int}(h0:0≤y)(h1:y≤len):(Instr.sliceBounds isSlice len cap (some (.int k y)) none none).run P w=.ok (y.toNat,len,cap) w:=by
 have c1:(0:Int)≤y∧y≤(len:Int):=⟨h0,h1⟩;simp only[Instr.sliceBounds,Instr.sliceBound,asIntOf,Sem.run_bind,Sem.run_pure,Result.andThen_ok,c1,sU,iP]
theorem Jx(isSlice:Bool)(len cap:Nat)(k k2:IntKind){y y2:Int}(h0:0≤y)(h1:y≤y2)(h2:y2≤cap):(Instr.sliceBounds isSlice len cap (some (.int k y)) (some (.int k2 y2)) none).run P w=.ok (y.toNat,y2.toNat,cap) w:=by
 have c1:(0:Int)≤y2∧y2≤(cap:Int):=⟨by omega,h2⟩;have c2:(0:Int)≤y∧y≤((y2.toNat:Nat):Int):=⟨h0,by omega⟩;simp only[Instr.sliceBounds,Instr.sliceBound,asIntOf,Sem.run_bind,Sem.run_pure,Result.andThen_ok,c1,sU,iP];simp only[c2,sU,iP,Sem.run_pure,Result.andThen_ok]
theorem gA{lo hi:Option Operand}{n:Int}{i j:Int}(h:bP B N γ σ a w)(hb:bounds σ n lo hi=some (i,j))(isSlice:Bool)(len cap:Nat)(hn:n=len)(hlc:len≤cap)(h0:0≤i)(h1:i≤j)(h2:j≤n) :
  (Instr.sliceBounds isSlice len cap (lo.map a.eval) (hi.map a.eval) none).run P w=.ok (i.toNat,j.toNat,cap) w:=by
 have E9:∀(o:Operand) k (m:Int),bz σ o=.data (.int k) m→a.eval o=.int k m:=fun o k m e=>by
  have:=h.bz o;rw[e] at this;exact(iZ this).1
 unfold bounds at hb;cases lo with
 | none =>
   cases hi with
   | none =>
     obtain⟨rfl,rfl⟩:=bY (aq hb);have:=KP (P:=P) (w:=w) isSlice len cap;rw[hn];simpa using this
   | some o =>
     simp only at hb;split at hb
     ·rename_i k y hy;obtain⟨rfl,e2⟩:=bY (aq hb);have e:=E9 o k _ hy;rw[show y=j from e2] at e;simp only[rT,Option.map_none,e];exact KQ isSlice len cap k h1 (by omega)
     ·cases hb
 | some o =>
   cases hi with
   | none =>
     simp only at hb;split at hb
     ·rename_i k y hy;obtain⟨e2,rfl⟩:=bY (aq hb);have e:=E9 o k _ hy;rw[show y=i from e2] at e;simp only[rT,Option.map_none,e];have:=KR (P:=P) (w:=w) isSlice len cap k h0 (by omega);rw[hn];simpa using this
     ·cases hb
   | some o2 =>
     simp only at hb;split at hb
     ·rename_i k y k2 y2 hy uW;obtain⟨e3,e4⟩:=bY (aq hb);have e:=E9 o k _ hy;have e2:=E9 o2 k2 _ uW;rw[show y=i from e3] at e;rw[show y2=j from e4] at e2;simp only[rT,e,e2];exact Jx isSlice len cap k k2 h0 h1 (by omega)
     ·cases hb
theorem yp(s:List UInt8){i j:Int}(h0:0≤i)(h1:i≤j):(⟨s.toArray⟩:ByteArray).extract i.toNat j.toNat=⟨(sub s i (minus j i)).toArray⟩:=by
 have:(minus j i).toNat=j.toNat-i.toNat:=by simp only[minus];omega
 apply ByteArray.ext;rw[ByteArray.data_extract];apply x4;simp[sub,this,List.extract_eq_take_drop]
theorem Ac{α:Type}(s:List α)(i n:Int):(sub s i n).length≤s.length:=by
 simp only[sub,ig,wD];omega
theorem Du{I:Nat→Nat→Prop}{e:Ty}{l:List e.den}{blk off cap i j:Nat}(h4:∀(k:Nat) (x:e.den),l[k]?=some x→∃es:List Value,es.length=e.size ∧
   (∀(q:Nat) v,es[q]?=some v→w.cell? ⟨blk,off+k*e.size+q,none⟩=some v∧I blk (off+k*e.size+q))∧aX w I e x es) (h1:i≤j) (h2:j≤l.length) (h3:l.length≤cap) (h5:cap≤maxLen) (base:Option Addr)
  (hb:base=some ⟨blk,off+i*e.size,none⟩∨(i=cap∧base=some ⟨blk,off,none⟩)) :
  aX w I (.slice e) ((l.drop i).take (j-i)) [.slice base (j-i) (cap-i)]:=by
 have hlen:((l.drop i).take (j-i)).length=j-i:=by simp;omega
 rcases hb with rfl|⟨rfl,rfl⟩
 ·refine .inr ⟨blk,off+i*e.size,cap-i,?_,?_,by omega,fun k x hk=>?_⟩
  ·show [Value.slice _ (j-i) _]=[Value.slice _ (List.length (α:=e.den) ((l.drop i).take (j-i))) _]
   rw[hlen]
  ·show List.length (α:=e.den) ((l.drop i).take (j-i))≤_
   rw[hlen];omega
  ·have hk':((l.drop i).take (j-i))[k]?=some x:=hk;rw[iO] at hk';split at hk'
   ·rw[mz] at hk';obtain⟨es,g1,g2,g3⟩:=h4 _ x hk';refine⟨es,g1,fun q v hq=>?_,g3⟩;have:=g2 q v hq;rw[lI,←qj] at this;exact this
   ·cases hk'
 ·have hji:j=i:=by omega
  subst hji;refine .inr ⟨blk,off,0,by simp,by simp,by omega,fun k x hk=>?_⟩;have hk':((l.drop j).take (j-j))[k]?=some x:=hk;simp at hk'
theorem sub_eq{α:Type}(l:List α){i j:Int}(h0:0≤i)(h1:i≤j):sub l i (minus j i)=(l.drop i.toNat).take (j.toNat-i.toNat):=by
 have:(minus j i).toNat=j.toNat-i.toNat:=by simp only[minus];omega
 rw[sub,this]
theorem sub_zero{α:Type}(l:List α):sub l 0 (minus 0 0)=[]:=by simp[sub,minus]
theorem B3{I:Nat→Nat→Prop}{e:Ty}{l:List e.den}{blk off cap:Nat}{i j:Int}(h4:∀(k:Nat) (x:e.den),l[k]?=some x→∃es:List Value,es.length=e.size ∧
   (∀(q:Nat) v,es[q]?=some v→w.cell? ⟨blk,off+k*e.size+q,none⟩=some v∧I blk (off+k*e.size+q))∧aX w I e x es) (h0:0≤i) (h1:i≤j) (h2:j≤l.length) (h3:l.length≤cap) (h5:cap≤maxLen) (base:Option Addr)
  (hb:base=some ⟨blk,off+i.toNat*e.size,none⟩∨(i.toNat=cap∧base=some ⟨blk,off,none⟩)) :
  aX w I (.slice e) (sub l i (minus j i)) [.slice base (j.toNat-i.toNat) (cap-i.toNat)]:=by
 rw[sub_eq l h0 h1];exact Du (w:=w) h4 (by omega) (by omega) h3 h5 base hb
theorem jG.sub{base:Option Addr}{cap:Nat}(h:jG base cap)(i s:Nat):jG (if cap=i then base else base.map (·.add s)) (cap-i):=by
 rcases h with rfl|⟨blk,off,rfl⟩
 ·exact .inl (by omega)
 ·refine .inr ?_;split
  ·exact⟨blk,off,rfl⟩
  ·exact⟨blk,off+s,by rw[rT,addr_add]⟩
theorem o8.sub{bx:aR}{b:Nat}{lo i:Int}{base:Option Addr}{cap:Nat}(h:o8 γ bx b lo base cap)(hlo:0≤lo)(h0:0≤i)(s:Nat) :
  o8 γ bx b (plus lo i) (if cap=i.toNat then base else base.map (·.add (i.toNat*s))) (cap-i.toNat):=by
 intro e hb;have e1:lo=0:=by simp only[plus] at e;omega
 have e2:i=0:=by simp only[plus] at e;omega
 subst e1;subst e2;rcases h rfl hb with ⟨a1,rfl,rfl⟩|⟨blk,a1,rfl⟩
 ·exact .inl ⟨a1,by simp,rfl⟩
 ·refine .inr ⟨blk,by simpa using a1,?_⟩;split
  ·rfl
  ·simp[Addr.add]
theorem rX(hc:dy P cx){ty:TypeId}{x:Operand}{lo hi:Option Operand}(h:bP B N γ σ a w)(hd:∀k,d=some k→k<N)(hr:(fo cx d ty (bz σ x) lo hi σ).run=some σ') :
  gh P B N γ σ a w d (Instr.sliceAt ty (a.eval x) (lo.map a.eval) (hi.map a.eval) none) σ':=by
 have hv:=h.bz x;unfold fo at hr;split at hr
 ·
  rename_i s hT hx;rw[hx] at hv;split at hr
  ·rename_i i j hb;obtain⟨hin,hr2⟩:=bu hr;obtain rfl:=aq hr2;obtain⟨h0,h1,h2⟩:=fK hin;obtain⟨hval,hl⟩:=kM hv;have hu:=(hc.T _ _ hT).str;have B4:=gA (P:=P) h hb false (List.length (α:=UInt8) s) (List.length (α:=UInt8) s) rfl (en _) h0 h1 h2;refine aU h hd (x:=.string ⟨(sub (α:=UInt8) s i (minus j i)).toArray⟩) ?_ (mkStr (gj (Ac (α:=UInt8) s _ _) hl));rw[hval];have hsz:(⟨List.toArray (α:=UInt8) s⟩:ByteArray).size=List.length (α:=UInt8) s:=rfl;simp only[Instr.sliceAt,Instr.slice,Sem.run_bind,run_underlying hu,Result.andThen_ok,hsz,Option.isSome_none,zM,sS];rw[B4];simp only[Result.andThen_ok,Sem.run_pure];rw[yp (show List UInt8 from s) h0 h1]
  ·cases hr
 ·
  rename_i u e l hT hx;rw[hx] at hv;obtain⟨Bo,eT⟩:=ah hr;obtain rfl:=Ty.eq_of_beq Bo;split at eT
  ·rename_i i j hb;obtain⟨hin,hr2⟩:=bu eT;obtain rfl:=aq hr2;obtain⟨h0,h1,h2⟩:=fK hin;obtain⟨bX,k1,k2,k3,k4⟩:=(hc.T _ _ hT).slice;obtain⟨cs,qw,hval⟩:=cq.1 hv;have Gp:len (α:=u.den) l=(List.length (α:=u.den) l:Int):=rfl;rcases qw with ⟨⟨Dv,e1⟩,e2⟩|⟨blk,off,cap,e1,e2,e3,e4⟩
   ·have qW:a.eval x=.slice Dv 0 0:=by rw[hval,e1];rfl
    have CL:List.length (α:=u.den) l=0:=by rw[show l=([]:List u.den) from e2];rfl
    rw[Gp,CL] at h2;have hi0:i=0:=by omega
    have hj0:j=0:=by omega
    subst hi0;subst hj0;have B4:=gA (P:=P) h hb true 0 0 (by rw[Gp,CL]) (en _) h0 h1 (by rw[Gp,CL];exact h2);refine aU h hd (x:=.slice Dv 0 0) ?_ ⟨_,.inl ⟨⟨Dv,rfl⟩,?_⟩,rfl⟩
    ·rw[qW];simp only[Instr.sliceAt,Instr.slice,Sem.run_bind,run_underlying k1,Result.andThen_ok,B4,k2.sizeOf w,Sem.run_pure];rfl
    ·exact sub_zero (α:=u.den) l
   ·have qW:a.eval x=.slice (some ⟨blk,off,none⟩) (List.length (α:=u.den) l) cap:=by rw[hval,e1];rfl
    have B4:=gA (P:=P) h hb true (List.length (α:=u.den) l) cap Gp e2 h0 h1 h2;have hj:j.toNat≤List.length (α:=u.den) l:=by rw[Gp] at h2;omega
    have hmain:=B3 (w:=w) (i:=i) (j:=j) e4 h0 h1 (by rw[Gp] at h2;exact h2) e2 e3;refine aU h hd (x:=.slice (if cap=i.toNat then some ⟨blk,off,none⟩ else some ⟨blk,off+i.toNat*u.size,none⟩) (j.toNat-i.toNat) (cap-i.toNat)) ?_
     ⟨_,hmain (if cap=i.toNat then some ⟨blk,off,none⟩ else some ⟨blk,off+i.toNat*u.size,none⟩) (by
      split
      ·rename_i hcap;exact .inr ⟨hcap.symm,rfl⟩
      ·exact .inl rfl),rfl⟩
    rw[qW];simp only[Instr.sliceAt,Instr.slice,Sem.run_bind,run_underlying k1,Result.andThen_ok,B4,k2.sizeOf w,Sem.run_pure,rT,addr_add]
  ·cases eT
 ·
  rename_i u c ag lo' n hT hx;rw[hx] at hv;split at hr
  ·rename_i bx gN;obtain⟨Bo,eT⟩:=ah hr;simp only[cA] at Bo;have aE:=cK Bo.1;split at eT
   ·rename_i i j hb;obtain⟨hin,hr2⟩:=bu eT;obtain rfl:=aq hr2;obtain⟨h0,h1,h2⟩:=fK hin;obtain⟨bX,k1,k2,k3,k4⟩:=(hc.T _ _ hT).slice;obtain⟨e',k,g2,g3,g4,g5,base,cap,g6,g7,g8,gF,g9⟩:=aF gN aE hv.2;have Jy:u=e':=by
     have:=Bo.2;rw[g2] at this;exact Ty.eq_of_beq this
    subst Jy;obtain g6:a.eval x=_:=by simpa using g6
    have B4:=gA (P:=P) h hb true n.toNat cap (by omega) g7 h0 h1 h2;refine aU h hd (x:=.slice (if cap=i.toNat then base else base.map (·.add (i.toNat*u.size))) (j.toNat-i.toNat) (cap-i.toNat)) ?_
     ⟨⟨_,rfl,rfl⟩,bx,gN,by omega,fun _=>⟨u,k,g2,by simp only[plus];omega,by simp only[minus];omega,by simp only[plus,minus];omega,(if cap=i.toNat then base else base.map (·.add (i.toNat*u.size))),cap-i.toNat,?_,?_,?_,⟨gF.1.sub _ _,gF.2.sub g3 h0 _⟩,?_⟩⟩
    ·rw[g6];simp only[Instr.sliceAt,Instr.slice,Sem.run_bind,run_underlying k1,Result.andThen_ok,B4,k2.sizeOf w,Sem.run_pure]
    ·have:(minus j i).toNat=j.toNat-i.toNat:=by simp only[minus];omega
     rw[this]
    ·simp only[minus];omega
    ·omega
    ·rcases g9 with g9|⟨blk,c',g9,g10⟩
     ·exact .inl (by simp only[minus];omega)
     ·by_cases hcap:cap=i.toNat
      ·exact .inl (by simp only[minus];omega)
      ·refine .inr ⟨blk,c',g9,?_⟩;rw[dW hcap,g10];have:(plus lo' i).toNat=lo'.toNat+i.toNat:=by simp only[plus];omega
       simp only[rT,addr_add,this,lI]
   ·cases eT
  ·cases hr
 ·
  rename_i u c ag hT hx;rw[hx] at hv;split at hr
  ·rename_i bx gN;obtain⟨Bo,eT⟩:=ah hr;simp only[cA] at Bo;have aE:=cK Bo.1;split at eT
   ·rename_i e l fT;obtain⟨Jy,hr2⟩:=ah eT;obtain rfl:=Ty.eq_of_beq Jy;obtain⟨bX,k1,k2,k3,k4⟩:=(hc.T _ _ hT).slice;obtain⟨e',n',g1,g2,g3⟩:=aF gN aE hv.2;have hrow:bx.row=some (u,List.length (α:=u.den) l):=aR.bQ Bo.2 fT;rw[hrow] at g2;obtain⟨rfl,rfl⟩:=bY (aq g2);have eH:=h.ok.boxes c bx gN;rw[bB,g1] at eH;obtain⟨e2,l2,j1,j2,j3⟩:=eH;have Io:∃base cap,a.eval x=.slice base (List.length (α:=u.den) l) cap∧List.length (α:=u.den) l≤cap∧cap≤maxLen∧(((cap=0∧List.length (α:=u.den) l=0)∧γ.loc c=none∧base=none)∨∃blk,γ.loc c=some (blk,cap)∧base=some ⟨blk,0,none⟩):=by
     rw[fT] at j1;cases j1;rcases g3 with ⟨g3,g4⟩|⟨blk,cap,g3,g4⟩
     ·obtain g4:a.eval x=_:=by simpa using g4
      rcases j3 with ⟨_,j4⟩|⟨_,_,_,_,_,j3,_⟩
      ·have CL:List.length (α:=u.den) l=0:=by rw[j4];rfl
       exact⟨none,0,by rw[g4,CL],by omega,kD _,.inl ⟨⟨rfl,CL⟩,g3,rfl⟩⟩
      ·rw[g3] at j3;cases j3
     ·obtain g4:a.eval x=_:=by simpa using g4
      rcases j3 with ⟨j3,_⟩|⟨b7,cap',cur,tid,fr,q1,q2,q3,de,q4,q5,q6,q7⟩
      ·rw[g3] at j3;cases j3
      ·rw[g3] at q1;obtain⟨rfl,rfl⟩:=bY (aq q1);exact⟨_,cap,g4,q4,q5,.inr ⟨blk,g3,rfl⟩⟩
    obtain⟨base,cap,m1,m2,m3,m4⟩:=Io;have hF:jG base cap:=by
     rcases m4 with ⟨⟨q2,_⟩,_⟩|⟨blk,q1,q2⟩
     ·exact .inl q2
     ·exact .inr ⟨blk,0,q2⟩
    have hZ:o8 γ bx c 0 base cap:=fun _ _=>by
     rcases m4 with ⟨⟨q2,_⟩,q3,q4⟩|⟨blk,q1,q2⟩
     ·exact .inl ⟨q3,q4,q2⟩
     ·exact .inr ⟨blk,q1,q2⟩
    have Bp:∀{i j:Int},bounds σ (len (α:=u.den) l) lo hi=some (i,j)→0≤i→i≤j→j≤len (α:=u.den) l →
      (Instr.sliceAt ty (a.eval x) (lo.map a.eval) (hi.map a.eval) none).run P w=.ok (.slice (if cap=i.toNat then base else base.map (·.add (i.toNat*u.size))) (j.toNat-i.toNat) (cap-i.toNat)) w:=by
     intro i j hb h0 h1 h2;have B4:=gA (P:=P) h hb true (List.length (α:=u.den) l) cap rfl m2 h0 h1 h2;rw[m1];simp only[Instr.sliceAt,Instr.slice,Sem.run_bind,run_underlying k1,Result.andThen_ok,B4,k2.sizeOf w,Sem.run_pure]
    split at hr2
    ·obtain rfl:=aq hr2;have:=Bp (i:=0) (j:=len (α:=u.den) l) rfl (by omega) (by simp only[len];omega) (by omega);have hjl:(len (α:=u.den) l).toNat=List.length (α:=u.den) l:=by simp[len]
     rw[hjl] at this;refine aU h hd (x:=a.eval x) ?_ hv;rw[this,m1]
     congr 1
     have:(base.map (·.add ((0:Int).toNat*u.size)))=base:=by cases base<;>simp[Addr.add]
     rw[this];simp
    ·split at hr2
     ·rename_i i j hb;obtain⟨hin,eu⟩:=bu hr2;obtain rfl:=aq eu;obtain⟨h0,h1,h2⟩:=fK hin;have Gp:len (α:=u.den) l=(List.length (α:=u.den) l:Int):=rfl;rw[Gp] at h2;refine aU h hd (Bp hb h0 h1 h2)
       ⟨⟨_,rfl,rfl⟩,bx,gN,by omega,fun _=>⟨u,_,hrow,h0,by simp only[minus];omega,by simp only[minus];omega,(if cap=i.toNat then base else base.map (·.add (i.toNat*u.size))),cap-i.toNat,?_,?_,?_,⟨hF.sub _ _,by have:=hZ.sub (Int.le_refl 0) h0 u.size;rwa [show plus 0 i=i by simp[plus]] at this⟩,?_⟩⟩
      ·have:(minus j i).toNat=j.toNat-i.toNat:=by simp only[minus];omega
       rw[this]
      ·simp only[minus];omega
      ·omega
      ·by_cases hcap:cap=i.toNat
       ·exact .inl (by simp only[minus];omega)
       ·rcases m4 with ⟨q1,q3⟩|⟨blk,q1,q2⟩
        ·exact .inl (by simp only[minus];omega)
        ·refine .inr ⟨blk,cap,q1,?_⟩;rw[dW hcap,q2];simp only[rT,addr_add,kS]
     ·cases hr2
   ·cases eT
  ·cases hr
 ·
  rename_i m u c ag s q hT hx;rw[hx] at hv;obtain⟨Fa,eT⟩:=ah hr;simp only[cA] at Fa;obtain⟨bx,gN,aE⟩:=eS Fa.1;have Jz:=rR Fa.2;split at eT
  ·rename_i i j hb;obtain⟨hin,eu⟩:=bu eT;obtain rfl:=aq eu;obtain⟨h0,h1,h2⟩:=fK hin;obtain⟨bX,k1,k2,k3⟩:=(hc.T _ _ hT).arr;obtain⟨blk,cap,hl,hval⟩:=aF gN aE hv.2;obtain hval:a.eval x=.pointer (some ⟨blk,bC (s::q),none⟩):=by simpa using hval
   have B4:=gA (P:=P) h hb false m m rfl (en _) h0 h1 h2;refine aU h hd (x:=.slice (some (if m=i.toNat then⟨blk,bC (s::q),none⟩ else(⟨blk,bC (s::q),none⟩:Addr).add (i.toNat*u.size))) (j.toNat-i.toNat) (m-i.toNat)) ?_
    ⟨⟨_,rfl,rfl⟩,bx,gN,by omega,fun _=>⟨by simp,blk,cap,hl,h0,by simp only[minus];omega,by simp only[minus];omega,some (if m=i.toNat then⟨blk,bC (s::q),none⟩ else(⟨blk,bC (s::q),none⟩:Addr).add (i.toNat*u.size)),m-i.toNat,?_,?_,?_⟩⟩
   ·rw[hval];simp only[Instr.sliceAt,Sem.run_bind,run_underlying k1,Result.andThen_ok,Instr.sureAddr,Sem.run_pure,B4,k2.sizeOf w]
   ·have:(minus j i).toNat=j.toNat-i.toNat:=by simp only[minus];omega
    rw[this]
   ·simp only[minus];omega
   ·by_cases hcap:m=i.toNat
    ·exact .inl (by simp only[minus];omega)
    ·refine .inr ?_;rw[dW hcap];simp only[addr_add]
  ·cases eT
 ·
  rename_i m u c ag hT hx;rw[hx] at hv;split at hr
  ·rename_i bx gN;obtain⟨Bo,eT⟩:=ah hr;simp only[cA,ny] at Bo;have aE:=cK Bo.1;split at eT
   ·rename_i n e l fT;obtain⟨hq,hr2⟩:=ah eT;simp only[cA] at hq;obtain rfl:=cK hq.1.1;obtain rfl:=Ty.eq_of_beq hq.1.2;have Jz:=rR hq.2;split at hr2
    ·rename_i i j hb;obtain⟨hin,eu⟩:=bu hr2;obtain rfl:=aq eu;obtain⟨h0,h1,h2⟩:=fK hin;obtain⟨bX,k1,k2,k3⟩:=(hc.T _ _ hT).arr;obtain⟨blk,cap,hl,hval⟩:=aF gN aE hv.2;obtain hval:a.eval x=.pointer (some ⟨blk,0,none⟩):=by simpa [bC] using hval
     have B4:=gA (P:=P) h hb false m m rfl (en _) h0 h1 h2;have hF:jG (some (if m=i.toNat then⟨blk,0,none⟩ else(⟨blk,0,none⟩:Addr).add (i.toNat*u.size))) (m-i.toNat):=by
      refine .inr ?_;split
      ·exact⟨blk,0,rfl⟩
      ·exact⟨blk,0+i.toNat*u.size,by rw[addr_add]⟩
     refine aU h hd (x:=.slice (some (if m=i.toNat then⟨blk,0,none⟩ else(⟨blk,0,none⟩:Addr).add (i.toNat*u.size))) (j.toNat-i.toNat) (m-i.toNat)) ?_
      ⟨⟨_,rfl,rfl⟩,bx,gN,by omega,fun _=>⟨u,m,aR.gU Bo.2 fT,h0,by simp only[minus];omega,by simp only[minus];omega,some (if m=i.toNat then⟨blk,0,none⟩ else(⟨blk,0,none⟩:Addr).add (i.toNat*u.size)),m-i.toNat,?_,?_,?_,⟨hF,fun _ hb=>by rw[Bo.2] at hb;cases hb⟩,?_⟩⟩
     ·rw[hval];simp only[Instr.sliceAt,Sem.run_bind,run_underlying k1,Result.andThen_ok,Instr.sureAddr,Sem.run_pure,B4,k2.sizeOf w]
     ·have:(minus j i).toNat=j.toNat-i.toNat:=by simp only[minus];omega
      rw[this]
     ·simp only[minus];omega
     ·simp only[maxLen];omega
     ·by_cases hcap:m=i.toNat
      ·exact .inl (by simp only[minus];omega)
      ·refine .inr ⟨blk,cap,hl,?_⟩;rw[dW hcap];simp only[addr_add,kS]
    ·cases hr2
   ·cases eT
  ·cases hr
 ·cases hr
end
end Go.Ge
namespace Go.Ge
open RowKit
section
variable {P:Program} {B:iy} {N:Nat} {γ:Gh} {σ σ':St} {a:Act} {w:World} {d:Option Nat} {cx:Ctx}
theorem aX.flat{w w':World}{I I':Nat→Nat→Prop}:∀{t:Ty} {x:t.den} {cs:List Value},t.flat=true→aX w I t x cs→aX w' I' t x cs:=by
 intro t;induction t with
 | int k=>intro x cs _ h;exact h
 | bool=>intro x cs _ h;exact h
 | str=>intro x cs _ h;exact h
 | slice e ih=>intro x cs hf;cases hf
 | arr n e ih=>intro x cs hf h;exact⟨h.1,h.2.1,fun i y hy=>ih hf (h.2.2 i y hy)⟩
 | pair a b eN fE =>
   intro x cs hf h;simp only[Ty.flat,cA] at hf;obtain⟨c1,c2,h0,h1,h2⟩:=h;exact⟨c1,c2,h0,eN hf.1 h1,fE hf.2 h2⟩
 | unit=>intro x cs _ h;exact h
 | alt u a r eN ihr =>
   intro x cs hf h;simp only[Ty.flat,cA] at hf;rcases x with y|z
   ·obtain⟨h1,c,h2,h3⟩:=h;exact⟨h1,c,h2,eN hf.1 h3⟩
   ·exact ihr hf.2 (show aX w I r z cs from h)
 | nO=>intro x cs _ h;exact h
def mP(w:World)(I:Nat→Nat→Prop)(e:Ty)(l:List e.den)(v:Value):Prop :=
 (l=[]∧∃base cap,v=.slice base 0 cap∧cap≤maxLen∧jG base cap) ∨
 ∃blk off cap,v=.slice (some ⟨blk,off,none⟩) l.length cap∧l.length≤cap∧cap≤maxLen ∧
  ∀(i:Nat) (x:e.den),l[i]?=some x→∃es:List Value,es.length=e.size ∧
   (∀(j:Nat) c,es[j]?=some c→w.cell? ⟨blk,off+i*e.size+j,none⟩=some c)∧aX w I e x es
theorem lT{I:Nat→Nat→Prop}{e:Ty}{l:List e.den}{blk:Nat}{cur:Array Value}{tid:TypeId}{fr:Nat×Nat}(hg:w.heap[blk]?=some (.cells cur tid fr)){n:Nat}(hn:n*e.size≤cur.size)
  (h:∀(i:Nat) (x:e.den),l[i]?=some x→aX w I e x ((cur.toList.drop (i*e.size)).take e.size)) (hl:l.length≤n) (lo:Nat) :
  ∀(i:Nat) (x:e.den),(l.drop lo)[i]?=some x→∃es:List Value,es.length=e.size ∧
   (∀(j:Nat) c,es[j]?=some c→w.cell? ⟨blk,lo*e.size+i*e.size+j,none⟩=some c)∧aX w I e x es:=by
 intro i x hx;rw[mz] at hx;have hr:=h _ x hx;have hlt:=(List.getElem?_eq_some_iff.1 hx).1;refine⟨_,hr.length,fun j c hj=>?_,hr⟩;rw[cell_of_heap hg];rw[iO] at hj;split at hj
 ·rw[mz] at hj;rw[←lI];simpa using hj
 ·cases hj
theorem bB.row{b:Nat}{bx:aR}{mem:Nat→Option aR}(h:bB γ mem w b bx){blk cap:Nat}(hl:γ.loc b=some (blk,cap)) :
  (∀(e:Ty) (l:List e.den),bx.buf=true→bx.val=.data (.slice e) l→∃cur tid fr,w.heap[blk]?=some (.cells cur tid fr)∧iw cur fr∧l.length≤cap∧cap≤maxLen∧cur.size=cap*e.size∧0<e.size ∧
   ∀(i:Nat) (x:e.den),l[i]?=some x→aX w γ.I e x ((cur.toList.drop (i*e.size)).take e.size)) ∧
  (∀(n:Nat) (e:Ty) (l:List e.den),bx.buf=false→bx.val=.data (.arr n e) l→∃cur tid fr,w.heap[blk]?=some (.cells cur tid fr)∧iw cur fr∧l.length=n∧cur.size=n*e.size ∧
   ∀(i:Nat) (x:e.den),l[i]?=some x→aX w γ.I e x ((cur.toList.drop (i*e.size)).take e.size)):=by
 refine⟨fun e l hb hv=>?_,fun n e l hb hv=>?_⟩
 ·rw[bB,hb] at h;obtain⟨e',l',h1,h2,h3⟩:=h;rw[hv] at h1;cases h1;rcases h3 with ⟨h3,_⟩|⟨b7,cap',cur,tid,fr,q1,q2,q3,de,q4,q5,q6,q7⟩
  ·rw[hl] at h3;cases h3
  ·rw[hl] at q1;obtain⟨rfl,rfl⟩:=bY (aq q1);exact⟨cur,tid,fr,q2,q3.th,q4,q5,q6,h2,q7⟩
 ·rw[bB,hb] at h;obtain⟨b7,cap',cur,tid,fr,q1,q2,q3,de,q4⟩:=h;rw[hl] at q1;obtain⟨rfl,rfl⟩:=bY (aq q1);rw[hv] at q4;obtain⟨r1,r2,r3⟩:=q4;exact⟨cur,tid,fr,q2,q3,r1,by simpa using r2,r3⟩
theorem pE{u e:Ty}{l:List u.den}{m:List e.den}(h:toL u e l=some m):∃q:u=e,m=q▸l:=eO h
theorem fL{e:Ty}{v:au}{l:List e.den}(hl:dw e σ v=some l) :
  v=.data (.slice e) l∨(v=.gk∧l=[])∨(∃b ag bx,v=.whole b ag∧σ.mem b=some bx∧bx.ag=ag∧bx.buf=true∧bx.val=.data (.slice e) l) ∨
  ∃b ag lo n bx,v=.part b ag lo n∧σ.mem b=some bx∧bx.ag=ag∧((bx.buf=true∧∃l0:List e.den,bx.val=.data (.slice e) l0∧l=sub l0 lo n)∨(bx.buf=false∧∃(k:Nat) (l0:List e.den),bx.val=.data (.arr k e) l0∧l=sub l0 lo n)):=by
 unfold dw at hl;split at hl
 ·obtain⟨q,rfl⟩:=pE hl;subst q;exact .inl rfl
 ·exact .inr (.inl ⟨rfl,(aq hl).symm⟩)
 ·rename_i b ag;split at hl
  ·rename_i bx hb;cases hc:(Nat.beq bx.ag ag&&bx.buf) with
   | false=>rw[hc,eD] at hl;exact absurd hl (by simp)
   | true =>
     rw[hc,gD] at hl;simp only[cA] at hc;split at hl
     ·rename_i u l0 fT;obtain⟨q,rfl⟩:=pE hl;subst q;exact .inr (.inr (.inl ⟨b,ag,bx,rfl,hb,cK hc.1,hc.2,fT⟩))
     ·exact absurd hl (by simp)
  ·exact absurd hl (by simp)
 ·rename_i b ag lo n;split at hl
  ·rename_i bx hb;cases hc:Nat.beq bx.ag ag with
   | false=>rw[hc,eD] at hl;exact absurd hl (by simp)
   | true =>
     rw[hc,gD] at hl;split at hl
     ·rename_i u l0 aQ fT;obtain⟨q,rfl⟩:=pE hl;subst q;exact .inr (.inr (.inr ⟨b,ag,lo,n,bx,rfl,hb,cK hc,.inl ⟨aQ,l0,fT,rfl⟩⟩))
     ·rename_i k0 u l0 aQ fT;obtain⟨q,rfl⟩:=pE hl;subst q;exact .inr (.inr (.inr ⟨b,ag,lo,n,bx,rfl,hb,cK hc,.inr ⟨aQ,k0,l0,fT,rfl⟩⟩))
     ·exact absurd hl (by simp)
  ·exact absurd hl (by simp)
 ·exact absurd hl (by simp)
theorem sL{α:Type}{l:List α}{lo n:Int}(h0:0≤lo)(h1:0≤n)(h2:lo+n≤l.length):(sub l lo n).length=n.toNat:=by
 simp only[sub,ig,wD];omega
theorem iA(hm:aN B γ σ.mem w){e:Ty}{v:au}{val:Value}{l:List e.den}(hv:br γ σ.mem w v .val [val])(hl:dw e σ v=some l):mP w γ.I e l val:=by
 rcases fL hl with rfl|⟨rfl,rfl⟩|⟨b,ag,bx,rfl,hb,aE,aQ,fT⟩|⟨b,ag,lo,n,bx,rfl,hb,aE,zH⟩
 ·obtain⟨cs,h1,hval⟩:=cq.1 hv;rcases h1 with ⟨⟨base,h1⟩,h2⟩|⟨blk,off,cap,h1,h2,h3,h4⟩
  ·exact .inl ⟨h2,base,0,by rw[hval,h1];rfl,kD _,.inl rfl⟩
  ·refine .inr ⟨blk,off,cap,by rw[hval,h1];rfl,h2,h3,fun i x hx=>?_⟩;obtain⟨es,g1,g2,g3⟩:=h4 i x hx;exact⟨es,g1,fun j c hj=>(g2 j c hj).1,g3⟩
 ·obtain rfl:val=_:=by simpa [br] using hv
  exact .inl ⟨rfl,none,0,rfl,kD _,.inl rfl⟩
 ·obtain⟨e',n',g1,g2,g3⟩:=aF hb aE hv.2;rw[aR.bQ g1 fT] at g2;obtain⟨rfl,rfl⟩:=bY (aq g2);rcases g3 with ⟨g3,g4⟩|⟨blk,cap,g3,g4⟩
  ·obtain rfl:val=_:=by simpa using g4
   have eH:=hm.boxes b bx hb;rw[bB,g1] at eH;obtain⟨e2,l2,j1,j2,j3⟩:=eH;rw[fT] at j1;cases j1;rcases j3 with ⟨_,j4⟩|⟨_,_,_,_,_,j3,_⟩
   ·exact .inl ⟨j4,none,0,rfl,kD _,.inl rfl⟩
   ·rw[g3] at j3;exact absurd j3 (by simp)
  ·obtain rfl:val=_:=by simpa using g4
   obtain⟨cur,tid,fr,q1,q2,q3,q4,q5,q6,q7⟩:=((hm.boxes b bx hb).row g3).1 _ l g1 fT;refine .inr ⟨blk,0,cap,rfl,q3,q4,fun i x hx=>?_⟩;have:=lT q1 (n:=cap) (by omega) q7 q3 0 i x hx;rw[C1] at this;exact this
 ·obtain⟨e',k,g2,g3,g4,g5,base,cap,g6,g7,g8,gF,g9⟩:=aF hb aE hv.2;obtain rfl:val=_:=by simpa using g6
  rcases zH with ⟨aQ,l0,fT,rfl⟩|⟨aQ,k0,l0,fT,rfl⟩
  ·rw[aR.bQ aQ fT] at g2;obtain⟨rfl,rfl⟩:=bY (aq g2);have hlen:=sL g3 g4 g5;rcases g9 with g9|⟨blk,c,g9,g10⟩
   ·subst g9;exact .inl ⟨by simp[sub],base,cap,rfl,g8,gF.1⟩
   ·obtain⟨cur,tid,fr,q1,q2,q3,q4,q5,q6,q7⟩:=((hm.boxes b bx hb).row g9).1 _ l0 aQ fT;refine .inr ⟨blk,lo.toNat*e.size,cap,by rw[g10,hlen],by rw[hlen];exact g7,g8,fun i x hx=>?_⟩;have hx':((List.drop lo.toNat l0).take n.toNat)[i]?=some x:=hx;rw[iO] at hx';split at hx'
    ·exact lT q1 (n:=c) (by omega) q7 q3 lo.toNat i x hx'
    ·exact absurd hx' (by simp)
  ·rw[aR.gU aQ fT] at g2;obtain⟨rfl,rfl⟩:=bY (aq g2);rcases g9 with g9|⟨blk,c,g9,g10⟩
   ·subst g9;exact .inl ⟨by simp[sub],base,cap,rfl,g8,gF.1⟩
   ·obtain⟨cur,tid,fr,q1,q2,q3,q5,q7⟩:=((hm.boxes b bx hb).row g9).2 _ _ l0 aQ fT;have hlen:=sL (l:=l0) g3 g4 (by rw[q3];exact g5);refine .inr ⟨blk,lo.toNat*e.size,cap,by rw[g10,hlen],by rw[hlen];exact g7,g8,fun i x hx=>?_⟩;have hx':((List.drop lo.toNat l0).take n.toNat)[i]?=some x:=hx;rw[iO] at hx';split at hx'
    ·exact lT q1 (n:=k0) (by omega) q7 (by omega) lo.toNat i x hx'
    ·exact absurd hx' (by simp)
theorem tF{I:Nat→Nat→Prop}{e:Ty}{blk:Nat}:∀{l:List e.den} {off:Nat},(∀(i:Nat) (x:e.den),l[i]?=some x→∃es:List Value,es.length=e.size ∧
   (∀(j:Nat) c,es[j]?=some c→w.cell? ⟨blk,off+i*e.size+j,none⟩=some c)∧aX w I e x es) →
  ∃news:List Value,news.length=l.length*e.size∧(∀(j:Nat) c,news[j]?=some c→w.cell? ⟨blk,off+j,none⟩=some c)∧(∀c∈news,c.oneCell'=true) ∧
   ∀(i:Nat) (x:e.den),l[i]?=some x→aX w I e x ((news.drop (i*e.size)).take e.size):=by
 intro l;induction l with
 | nil=>intro off h;exact⟨[],by simp,by simp,by simp,by simp⟩
 | cons x0 r ih =>
   intro off h;obtain⟨es,g1,g2,g3⟩:=h 0 x0 rfl;obtain⟨news,k1,k2,k3,k4⟩:=ih (off:=off+e.size) fun i x hx=>by
    obtain⟨es',a1,a2,a3⟩:=h (i+1) x (by simpa using hx);refine⟨es',a1,fun j c hj=>?_,a3⟩;have:=a2 j c hj;rw[mD] at this;rw[←this];congr 2;omega
   refine⟨es++news,by rw[ji,g1,k1,CV,mD];omega,fun j c hj=>?_,fun c hc=>?_,fun i x hx=>?_⟩
   ·rw[GQ] at hj;split at hj
    ·have:=g2 j c hj;simpa using this
    ·rename_i hlt;have:=k2 _ c hj;rw[←this];congr 2;omega
   ·rcases List.mem_append.1 hc with hc|hc
    ·exact g3.one c hc
    ·exact k3 c hc
   ·cases i with
    | zero =>
      obtain rfl:x0=x:=by simpa using hx
      rw[C1,Be,←g1,BM];exact g3
    | succ i =>
      have hx':r[i]?=some x:=by simpa using hx
      rw[mD,Bi,←lH,←g1,ou,g1];exact k4 i x hx'
theorem pF(h:bP B N γ σ a w){b:Nat}{bx:aR}{e:Ty}{n:Nat}(hb:σ.mem b=some bx)(hrow:bx.row=some (e,n))(hf:freeze σ b=some σ') :
  ∃γ',bP B N γ' σ' a w∧Ext B γ σ.mem w γ' σ'.mem w∧γ'.loc=γ.loc∧∀blk k off,γ.loc b=some (blk,k)→off<n*e.size→γ'.I blk off:=by
 obtain⟨m1,m2⟩:=h.ok.freeze hb hrow;have e1:σ'={ slots:=σ.slots,mem:=bD σ.mem b { bx with ro:=true } }:=by
  unfold freeze at hf;rw[hb] at hf;cases hro:bx.ro with
  | true =>
    simp only[hro,gD,iX] at hf;subst hf;have:bD σ.mem b { bx with ro:=true }=σ.mem:=by
     funext c;by_cases e:c=b
     ·subst e;rw[aP,hb];congr 1;cases bx;simp only at hro;subst hro;rfl
     ·rw[az _ e]
    rw[this]
  | false =>
    simp only[hro,eD] at hf;cases hlk:bx.lk with
    | true=>simp[hlk] at hf
    | false=>simp only[hlk,eD,iX] at hf;subst hf;rfl
 subst e1;exact⟨_,h.go m2 m1,m2,rfl,fun blk k off hl ho=>.inr ⟨⟨k,hl⟩,ho⟩⟩
theorem mP.data{γ':Gh}{e:Ty}{l:List e.den}{val:Value}(h:mP w γ.I e l val)(hI:∀b o,γ.I b o→γ'.I b o)
  (hc:∀blk off cap,val=.slice (some ⟨blk,off,none⟩) l.length cap→∀j,j<l.length*e.size→γ'.I blk (off+j)):aX w γ'.I (.slice e) l [val]:=by
 rcases h with ⟨rfl,base,cap,r1,r2,r3⟩|⟨blk,off,cap,r1,r2,r3,r4⟩
 ·rcases r3 with rfl|⟨blk,off,rfl⟩
  ·exact .inl ⟨⟨base,by rw[r1]⟩,rfl⟩
  ·exact .inr ⟨blk,off,cap,by rw[r1];rfl,kD _,r2,fun i x hx=>by cases hx⟩
 ·refine .inr ⟨blk,off,cap,by rw[r1],r2,r3,fun i x hx=>?_⟩;obtain⟨es,g1,g2,g3⟩:=r4 i x hx;have hi:i<l.length:=(List.getElem?_eq_some_iff.1 hx).1;refine⟨es,g1,fun j c hj=>⟨g2 j c hj,?_⟩,aX.mono hI (fun _ _ _=>rfl) g3⟩;have hj':j<e.size:=by have:=(List.getElem?_eq_some_iff.1 hj).1;omega
  have:(i+1)*e.size≤l.length*e.size:=iN _ hi;rw[mD] at this;rw[qj];exact hc blk off cap r1 _ (by omega)
theorem pG(h:bP B N γ σ a w){e:Ty}{v:au}{val:Value}{l:List e.den}(hv:br γ σ.mem w v .val [val])(hl:dw e σ v=some l)(hf:dA σ v=some σ') :
  ∃γ',bP B N γ' σ' a w∧Ext B γ σ.mem w γ' σ'.mem w∧aX w γ'.I (.slice e) l [val]:=by
 have hrow:=iA h.ok hv hl;rcases fL hl with rfl|⟨rfl,rfl⟩|⟨b,ag,bx,rfl,hb,aE,aQ,fT⟩|⟨b,ag,lo,n,bx,rfl,hb,aE,zH⟩
 ·obtain rfl:=aq hf;obtain⟨cs,h1,hval⟩:=cq.1 hv;have:cs=[val]:=by
   obtain⟨c,rfl⟩:=List.length_eq_one_iff.1 h1.length;rw[hval];rfl
  exact⟨γ,h,Ext.refl _ _ _ _,by rw[←this];exact h1⟩
 ·obtain rfl:=aq hf;obtain rfl:val=_:=by simpa [br] using hv
  exact⟨γ,h,Ext.refl _ _ _ _,.inl ⟨⟨none,rfl⟩,rfl⟩⟩
 ·obtain⟨γ',s1,s2,s3,s4⟩:=pF h hb (aR.bQ aQ fT) hf;refine⟨γ',s1,s2,hrow.data s2.I fun blk off cap hval j hj=>?_⟩;obtain⟨e',n',g1,g2,g3⟩:=aF hb aE hv.2;rcases g3 with ⟨g3,g4⟩|⟨b7,cap',g3,g4⟩
  ·obtain rfl:val=_:=by simpa using g4
   injection hval with q1 q2 q3
   rw[←q2,C1] at hj;omega
  ·obtain rfl:val=_:=by simpa using g4
   injection hval with q1 q2 q3
   injection q1 with q1
   injection q1 with q1 q4
   subst q1;subst q4;rw[kS];exact s4 b7 cap' j g3 hj
 ·obtain⟨e',k,g2,g3,g4,g5,base,cap,g6,g7,g8,gF,g9⟩:=aF hb aE hv.2;obtain rfl:val=_:=by simpa using g6
  have hlk:e=e'∧l.length=n.toNat:=by
   rcases zH with ⟨aQ,l0,fT,rfl⟩|⟨aQ,k0,l0,fT,rfl⟩
   ·rw[aR.bQ aQ fT] at g2;obtain⟨rfl,rfl⟩:=bY (aq g2);exact⟨rfl,sL g3 g4 g5⟩
   ·rw[aR.gU aQ fT] at g2;obtain⟨rfl,rfl⟩:=bY (aq g2);rcases g9 with g9|⟨blk,c,g9,g10⟩
    ·subst g9;exact⟨rfl,by simp[sub]⟩
    ·obtain⟨cur,tid,fr,q1,q2,q3,q5,q7⟩:=((h.ok.boxes b bx hb).row g9).2 _ _ l0 aQ fT;exact⟨rfl,sL g3 g4 (by rw[q3];exact g5)⟩
  obtain⟨rfl,hlen⟩:=hlk;obtain⟨γ',s1,s2,s3,s4⟩:=pF h hb g2 hf;refine⟨γ',s1,s2,hrow.data s2.I fun blk off cap' hval j hj=>?_⟩;rcases g9 with g9|⟨b7,c,g9,g10⟩
  ·rw[hlen,g9] at hj;simp at hj
  ·injection hval with q1 q2 q3
   rw[g10] at q1;injection q1 with q1
   injection q1 with q1 q4
   subst q1;subst q4;refine s4 b7 c _ g9 ?_;have:(lo.toNat+n.toNat)*e.size≤k*e.size:=iN _ (by omega);rw[lI] at this;rw[hlen] at hj;omega
theorem nX{e:Ty}{v:au}{l:List e.den}{b:Nat}(h:dw e σ v=some l)(hf:freeze σ b=some σ'):dw e σ' v=some l:=by
 have hm:∀c bx,σ.mem c=some bx→∃r,σ'.mem c=some { bx with ro:=r }:=by
  intro c bx hc;unfold freeze at hf;split at hf
  ·rename_i bT hb0;cases hro:bT.ro with
   | true=>simp only[hro,gD,iX] at hf;subst hf;exact⟨bx.ro,hc⟩
   | false =>
     cases hlk:bT.lk with
     | true=>simp[hro,hlk] at hf
     | false =>
       simp only[hro,hlk,eD,iX] at hf;subst hf;by_cases e:c=b
       ·subst e;rw[hb0] at hc;obtain rfl:=aq hc;exact⟨true,by simp[St.bt,hlk]⟩
       ·exact⟨bx.ro,by simp[St.bt,ec e,hc]⟩
  ·cases hf
 rcases fL h with rfl|⟨rfl,rfl⟩|⟨c,ag,bx,rfl,hb,aE,aQ,fT⟩|⟨c,ag,lo,n,bx,rfl,hb,aE,zH⟩
 ·exact h
 ·rfl
 ·obtain⟨r,hr⟩:=hm c bx hb;simp only[dw,hr,aE,aQ,fT,wH,Bool.and_self,gD];simp[toL,Ty.beq_refl]
 ·obtain⟨r,hr⟩:=hm c bx hb;rcases zH with ⟨aQ,l0,fT,rfl⟩|⟨aQ,k0,l0,fT,rfl⟩
  ·simp only[dw,hr,aE,aQ,fT,wH,gD];simp[toL,Ty.beq_refl]
  ·simp only[dw,hr,aE,aQ,fT,wH,gD];simp[toL,Ty.beq_refl]
theorem pH{s r:Ty}{p q:au}{x:(Ty.pair s r).den}(h:hY σ (.pair s r) (.mix p q)=some x):∃(y:s.den) (z:r.den),hY σ s p=some y∧hY σ r q=some z∧x=(y,z):=by
 replace h:(match hY σ s p,hY σ r q with
  | some x,some y=>some ((x,y):(Ty.pair s r).den)
  | _,_=>none)=some x:=h
 split at h
 ·rename_i y z h1 h2;exact⟨y,z,h1,h2,(aq h).symm⟩
 ·exact absurd h (by simp)
theorem vP{s r:Ty}{p q:au}{y:s.den}{z:r.den}(h1:hY σ s p=some y)(h2:hY σ r q=some z):hY σ (.pair s r) (.mix p q)=some ((y,z):(Ty.pair s r).den):=by
 show(match hY σ s p,hY σ r q with
  | some x,some y=>some ((x,y):(Ty.pair s r).den)
  | _,_=>none)=some (y,z)
 rw[h1,h2]
theorem jX{p q:au}(h:dA σ (.mix p q)=some σ'):∃σ1,dA σ p=some σ1∧dA σ1 q=some σ':=by
 unfold dA at h;split at h
 ·rename_i σ1 h1;exact⟨σ1,h1,h⟩
 ·exact absurd h (by simp)
theorem gH{t:Ty}:∀{x:t.den},hY σ t .iQ=some x→(∀w I,aX w I t x [.nilIface])∧(∀τ:St,hY τ t .iQ=some x)∧bA t [.nilIface]=.nilIface∧t.isAgg=false:=by
 induction t with
 | alt u a r eN ihr =>
   intro x h;have h:(match hY σ r .iQ with|some x=>some (Sum.inr x)|none=>none:Option (a.den⊕r.den))=some x:=h;cases hr:hY σ r .iQ with
   | none=>rw[hr] at h;cases h
   | some y =>
     rw[hr] at h;obtain rfl:=aq h;obtain⟨h1,h2,h3,h4⟩:=ihr hr;refine⟨fun w I=>h1 w I,fun τ=>?_,h3,h4⟩;show(match hY τ r .iQ with|some x=>some (Sum.inr x)|none=>none:Option (a.den⊕r.den))=_
     rw[h2 τ];rfl
 | nO=>intro x h;obtain rfl:()=x:=aq h;exact⟨fun w I=>rfl,fun τ=>rfl,rfl,rfl⟩
 | slice e=>intro x h;cases h
 | pair a b=>intro x h;cases h
 | _=>intro x h;cases h
theorem yq:∀{v:au} {t:Ty} {x:t.den} {σ σ':St} {u:au},hY σ t v=some x→dA σ u=some σ'→hY σ' t v=some x:=by
 have one:∀{u:au} {e:Ty} {v:au} {l:List e.den} {σ σ':St},dw e σ v=some l→dA σ u=some σ'→dw e σ' v=some l:=by
  intro u;induction u with
  | mix p q lq kO =>
    intro e v l σ σ' h hf;simp only[dA] at hf;cases hp:dA σ p with
    | none=>rw[hp] at hf;cases hf
    | some σ1=>rw[hp] at hf;exact kO (lq h hp) hf
  | whole b ag=>intro e v l σ σ' h hf;exact nX h hf
  | part b ag lo n=>intro e v l σ σ' h hf;exact nX h hf
  | _=>intro e v l σ σ' h hf;obtain rfl:=aq hf;exact h
 intro v;induction v with
 | data u y =>
   intro t x σ σ' u h hf;cases t with
   | slice e=>exact one h hf
   | _=>exact h
 | mix p q lq kO =>
   intro t x σ σ' u h hf;cases t with
   | pair s r =>
     obtain⟨y,z,h1,h2,rfl⟩:=pH h;exact vP (lq h1 hf) (kO h2 hf)
   | slice e=>exact one h hf
   | _=>cases h
 | iQ=>intro t x σ σ' u h hf;exact(gH h).2.1 _
 | _ =>
   intro t x σ σ' u h hf;cases t with
   | slice e=>exact one h hf
   | _=>cases h
theorem qZ{γ:Gh}{mem:Nat→Option aR}{v:au}{cs:List Value}(h:br γ mem w v .cells cs)(h1:bL v=1):∃c,cs=[c]:=by
 have:=h.length;rw[h1] at this;exact List.length_eq_one_iff.1 this
theorem Ad:∀{v:au} {t:Ty} {x:t.den} {cs:List Value} {σ σ':St} {γ:Gh} {a:Act},bP B N γ σ a w→br γ σ.mem w v .cells cs→hY σ t v=some x→dA σ v=some σ' →
  ∃γ',bP B N γ' σ' a w∧Ext B γ σ.mem w γ' σ'.mem w∧aX w γ'.I t x cs:=by
 have sl:∀{v:au} {e:Ty} {l:List e.den} {cs:List Value} {σ σ':St} {γ:Gh} {a:Act},bL v=1→(∀c,br γ σ.mem w v .cells [c]→br γ σ.mem w v .val [c])→bP B N γ σ a w→br γ σ.mem w v .cells cs→dw e σ v=some l→dA σ v=some σ' →
   ∃γ',bP B N γ' σ' a w∧Ext B γ σ.mem w γ' σ'.mem w∧aX w γ'.I (.slice e) l cs:=by
  intro v e l cs σ σ' γ a h1 hval h hc hl hf;obtain⟨c,rfl⟩:=qZ hc h1;exact pG h (hval c hc) hl hf
 intro v;induction v with
 | data u y =>
   intro t x cs σ σ' γ a h hc hl hf;obtain rfl:=aq hf;have key:(∃q:u=t,x=q▸y):=by
    cases t with
    | slice e =>
      rcases fL (show dw e σ (.data u y)=some x from hl) with g|⟨g,_⟩|⟨_,_,_,g,_⟩|⟨_,_,_,_,_,g,_⟩
      ·injection g with g1 g2;subst g1;exact⟨rfl,(eq_of_heq g2).symm⟩
      ·cases g
      ·cases g
      ·cases g
    | _=>exact Ty.eW hl
   obtain⟨q,hq⟩:=key;subst q;subst hq;exact⟨γ,h,Ext.refl _ _ _ _,hc⟩
 | mix p q lq kO =>
   intro t x cs σ σ' γ a h hc hl hf;cases t with
   | pair s r =>
     obtain⟨c1,c2,rfl,h1,h2⟩:=hc;obtain⟨y,z,hp,hq,rfl⟩:=pH hl;obtain⟨σ1,CM,KS⟩:=jX hf;obtain⟨dX,s1,s2,s3⟩:=lq h h1 hp CM;obtain⟨nY,t1,t2,t3⟩:=kO s1 (h2.ext s2) (yq hq CM) KS;exact⟨nY,t1,s2.trans t2,c1,c2,rfl,aX.mono t2.I t2.cells s3,t3⟩
   | slice e=>exact absurd hl (by intro k;cases k)
   | _=>cases hl
 | gk =>
   intro t x cs σ σ' γ a h hc hl hf;cases t with
   | slice e=>exact sl (v:=.gk) rfl (fun c k=>k) h hc hl hf
   | _=>cases hl
 | whole b ag =>
   intro t x cs σ σ' γ a h hc hl hf;cases t with
   | slice e=>exact sl (v:=.whole b ag) rfl (fun c k=>k) h hc hl hf
   | _=>cases hl
 | part b ag lo n =>
   intro t x cs σ σ' γ a h hc hl hf;cases t with
   | slice e=>exact sl (v:=.part b ag lo n) rfl (fun c k=>k) h hc hl hf
   | _=>cases hl
 | iQ =>
   intro t x cs σ σ' γ a h hc hl hf;obtain rfl:=aq hf;obtain rfl:cs=[.nilIface]:=hc;exact⟨γ,h,Ext.refl ..,(gH hl).1 _ _⟩
 | _ =>
   intro t x cs σ σ' γ a h hc hl hf;cases t with
   | slice e=>exact absurd hl (by intro k;cases k)
   | _=>cases hl
theorem fM{t:Ty}{x:t.den}{v:au}{val:Value}(h:bP B N γ σ a w)(hv:br γ σ.mem w v .val [val])(hg:kU σ t v=some (x,σ')) :
  ∃γ',bP B N γ' σ' a w∧Ext B γ σ.mem w γ' σ'.mem w∧br γ' σ'.mem w (.data t x) .val [val]:=by
 unfold kU at hg;split at hg
 ·rename_i u y;split at hg
  ·rename_i y2 hy;obtain⟨rfl,rfl⟩:=bY (aq hg);obtain⟨q,hq⟩:=Ty.eW hy;subst q;subst hq;exact⟨γ,h,Ext.refl _ _ _ _,hv⟩
  ·cases hg
 ·split at hg
  ·rename_i y σ1 hl hf;obtain⟨rfl,rfl⟩:=bY (aq hg);cases v with
   | data u y'=>rename_i hne;exact absurd rfl (hne u y')
   | mix p q =>
     obtain⟨c1,c2,e1,h1,h2⟩:=hv;obtain rfl:val=_:=by simpa using e1
     obtain⟨γ',s1,s2,s3⟩:=Ad h (show br γ σ.mem w (.mix p q) .cells (c1++c2) from⟨c1,c2,rfl,h1,h2⟩) hl hf;refine⟨γ',s1,s2,_,s3,?_⟩;cases t with
     | pair s r=>rfl
     | slice e=>exact absurd hl (by intro k;cases k)
     | _=>cases hl
   | gk =>
     cases t with
     | slice e=>obtain⟨γ',s1,s2,s3⟩:=pG h hv hl hf;exact⟨γ',s1,s2,_,s3,rfl⟩
     | _=>cases hl
   | whole b ag =>
     cases t with
     | slice e=>obtain⟨γ',s1,s2,s3⟩:=pG h hv hl hf;exact⟨γ',s1,s2,_,s3,rfl⟩
     | _=>cases hl
   | part b ag lo n =>
     cases t with
     | slice e=>obtain⟨γ',s1,s2,s3⟩:=pG h hv hl hf;exact⟨γ',s1,s2,_,s3,rfl⟩
     | _=>cases hl
   | iQ =>
     obtain rfl:=aq hf;obtain hv:[val]=[Value.nilIface]:=hv;obtain rfl:val=.nilIface:=by simpa using hv
     exact⟨γ,h,Ext.refl ..,[.nilIface],(gH hl).1 _ _,by rw[(gH hl).2.2.1]⟩
   | _ =>
     cases t with
     | slice e=>exact absurd hl (by intro k;cases k)
     | _=>cases hl
  ·cases hg
end
end Go.Ge
