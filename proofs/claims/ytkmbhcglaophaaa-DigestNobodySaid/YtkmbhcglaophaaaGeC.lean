/- A ghost interpreter of the model's code, and that it tells the truth: part 3. It says of a function of plain data what a call of it comes to. -/
import Derived.Test.YtkmbhcglaophaaaGeB
set_option linter.unusedVariables false
set_option linter.unusedSimpArgs false
set_option linter.unusedSectionVars false
namespace Go.Ge
open RowKit
section
variable {P:Program} {B:iP} {N:Nat} {γ:Gh} {σ σ':St} {a:Act} {w:World} {d:Option Nat} {cx:Ctx}
theorem uX(b c:Bool){xt:TypeId}{x y:Operand}(ht:P.underlying xt=some .bool) :
  (dx .eql xt x y (.bool b) (.bool c)).run P w=.ok (.bool (JX b c)) w∧(dx .neq xt x y (.bool b) (.bool c)).run P w=.ok (.bool (nt (JX b c))) w:=by
 have e:=run_equalIn_bool' (P:=P) w 9999 xt b c ht;constructor<;>simp only[dx,eqGuard_at_bool,binOp,Op.equal,Op.maxDepth,Sem.run_bind,Sem.run_pure,Result.andThen_ok,e]<;>rfl
theorem Aj{xt e:TypeId}(ht:P.underlying xt=some (.pointer e))(a b:Option Addr)(h:a=none∨b=none)(n:Nat) :
  (Op.equalIn (n+1) xt (.pointer a) (.pointer b)).run P w=.ok (a.isNone&&b.isNone) w:=by
 cases a with
 | none=>cases b<;>simp only[Op.equalIn,Sem.run_bind,run_underlying ht,Result.andThen_ok]<;>rfl
 | some a=>cases b with
   | none=>simp only[Op.equalIn,Sem.run_bind,run_underlying ht,Result.andThen_ok];rfl
   | some b=>simp at h
theorem lF{xt e:TypeId}{x y:Operand}(ht:P.underlying xt=some (.pointer e))(a b:Option Addr)(h:a=none∨b=none) :
  (dx .eql xt x y (.pointer a) (.pointer b)).run P w=.ok (.bool (a.isNone&&b.isNone)) w∧(dx .neq xt x y (.pointer a) (.pointer b)).run P w=.ok (.bool (!(a.isNone&&b.isNone))) w:=by
 have e:=Aj (P:=P) (w:=w) ht a b h 9999;constructor<;>simp only[dx,eqGuard_at_pointer,binOp,Op.equal,Op.maxDepth,Sem.run_bind,Sem.run_pure,Result.andThen_ok,e]
theorem D7(hc:dw P cx){op:BinOp}{xt:TypeId}{x y:Operand}{u v:Value}{p q r:av}(hu:aV γ σ.mem w p .val [u])(hv:aV γ σ.mem w q .val [v])
  (hr:(bin (find cx.T xt) (bC cx.cO xt) op p q).run=some r):∃z,(dx op xt x y u v).run P w=.ok z w∧aV γ σ.mem w r .val [z]:=by
 unfold bin at hr;split at hr
 ·
  obtain⟨rfl,h1⟩:=jz hu;obtain⟨rfl,h2⟩:=jz hv;split at hr
  ·rename_i left hs;have hr2:=cT hr;rename_i k n k' m _;cases hz:iH m 0
   ·rw[hz] at hr2;obtain rfl:=au hr2;exact Ah h1 hs hz
   ·rw[hz] at hr2;cases hr2
  ·rename_i hs;obtain⟨hb,hr2⟩:=ai hr;rename_i k n k' m _;have hk:=lP hb;subst hk;exact yF h1 hs hr2
 ·
  obtain⟨rfl,h1⟩:=lE hu;obtain⟨rfl,h2⟩:=lE hv;exact yG hr
 ·
  rename_i b c;obtain rfl:=mN hu;obtain rfl:=mN hv;obtain⟨hb,hr2⟩:=ai hr;have ht:=hc.T _ _ (dR hb);have e:=uX (P:=P) (w:=w) b c (x:=x) (y:=y) ht.bool;split at hr2
  ·rename_i he;obtain rfl:=au hr2;rcases iQ he with ⟨rfl,_⟩|⟨_,h⟩
   ·exact⟨.bool (JX b c),e.1,cX _⟩
   ·cases h
  ·rename_i he;obtain rfl:=au hr2;rcases iQ he with ⟨_,h⟩|⟨rfl,_⟩
   ·cases h
   ·exact⟨.bool (nt (JX b c)),e.2,cX _⟩
  ·cases hr2
 ·
  rename_i ta tb x1 t2 y1;obtain⟨hb,hr2⟩:=ai hr;simp only[bY] at hb;have ht:=hc.T _ _ (dR hb.1);split at hr2
  ·rename_i y2 e wB he;obtain⟨e1,e2⟩:=Ty.eY wB;subst e1;subst e2;split at hr2
   ·rename_i c hce;obtain rfl:=au hr2;obtain⟨F0,k1,rfl⟩:=b5.1 hu;obtain⟨E1,k2,rfl⟩:=b5.1 hv;have hq:=(oW (P:=P) (γ:=γ) (w:=w) (.pair ta tb)).1 10000 xt x1 _ F0 E1 c ht k1 k2 hce (by have:=tq hb.2;omega);obtain⟨fs,j1,j2,j3,j4⟩:=ht.pair;have hg:∀op,(eqGuard op xt x y (.agg F0.toArray) (.agg E1.toArray)).run P w=.ok () w:=fun op=>run_eqGuard_agg w op xt x y _ _ j3;rcases iQ he with ⟨rfl,rfl⟩|⟨rfl,rfl⟩
    ·refine⟨.bool c,?_,cX _⟩;show(dx .eql xt x y (.agg _) (.agg _)).run P w=_
     simp only[dx,Sem.run_bind,hg,Result.andThen_ok];have F1:(Op.equalIn 10000 xt (.agg F0.toArray) (.agg E1.toArray)).run P w=.ok c w:=hq;rw[run_eql_struct,F1];rfl
    ·refine⟨.bool (nt c),?_,cX _⟩;show(dx .neq xt x y (.agg _) (.agg _)).run P w=_
     simp only[dx,Sem.run_bind,hg,Result.andThen_ok];have F1:(Op.equalIn 10000 xt (.agg F0.toArray) (.agg E1.toArray)).run P w=.ok c w:=hq;rw[run_neq_struct,F1];rfl
   ·cases hr2
  ·cases hr2
 ·
  rename_i nn ee x1 t2 y1;obtain⟨hb,hr2⟩:=ai hr;simp only[bY] at hb;have ht:=hc.T _ _ (dR hb.1);split at hr2
  ·rename_i y2 e wB he;obtain⟨e1,e2⟩:=Ty.eY wB;subst e1;subst e2;split at hr2
   ·rename_i c hce;obtain rfl:=au hr2;obtain⟨F0,k1,rfl⟩:=b5.1 hu;obtain⟨E1,k2,rfl⟩:=b5.1 hv;have hq:=(oW (P:=P) (γ:=γ) (w:=w) (.arr nn ee)).1 10000 xt x1 _ F0 E1 c ht k1 k2 hce (by have:=tq hb.2;omega);have j3:=ht.K1;have hg:∀op,(eqGuard op xt x y (.agg F0.toArray) (.agg E1.toArray)).run P w=.ok () w:=fun op=>run_eqGuard_agg w op xt x y _ _ j3;rcases iQ he with ⟨rfl,rfl⟩|⟨rfl,rfl⟩
    ·refine⟨.bool c,?_,cX _⟩;show(dx .eql xt x y (.agg _) (.agg _)).run P w=_
     simp only[dx,Sem.run_bind,hg,Result.andThen_ok];have F1:(Op.equalIn 10000 xt (.agg F0.toArray) (.agg E1.toArray)).run P w=.ok c w:=hq;rw[run_eql_struct,F1];rfl
    ·refine⟨.bool (nt c),?_,cX _⟩;show(dx .neq xt x y (.agg _) (.agg _)).run P w=_
     simp only[dx,Sem.run_bind,hg,Result.andThen_ok];have F1:(Op.equalIn 10000 xt (.agg F0.toArray) (.agg E1.toArray)).run P w=.ok c w:=hq;rw[run_neq_struct,F1];rfl
   ·cases hr2
  ·cases hr2
 ·
  obtain rfl:u=_:=by simpa [aV] using hu
  obtain rfl:v=_:=by simpa [aV] using hv
  split at hr
  ·rename_i e hp he;obtain rfl:=au hr;obtain⟨el,K3⟩:=hc.cO _ hp;have q:=lF (P:=P) (w:=w) (x:=x) (y:=y) K3 none none (.inl rfl);rcases iQ he with ⟨rfl,rfl⟩|⟨rfl,rfl⟩
   ·exact⟨_,q.1,cX _⟩
   ·exact⟨_,q.2,cX _⟩
  ·cases hr
 ·cases hr
theorem eO{b ag:Nat}(h:live σ b ag=true):∃bx,σ.mem b=some bx∧bx.ag=ag:=by
 unfold live at h;split at h
 ·rename_i bx hb;exact⟨bx,hb,cB h⟩
 ·cases h
theorem aD{mem:Nat→Option aI}{b ag:Nat}{bx:aI}(hb:mem b=some bx)(hv:bx.ag=ag){K:aI→Prop}(h:fM mem b ag K):K bx:=by
 obtain⟨dQ,h1,h2,h3⟩:=h;rw[hb] at h1;obtain rfl:=au h1;exact h3 hv
theorem BS(hc:dw P cx){op:BinOp}{xt:TypeId}{x y:Operand}{u v:Value}{p q r:av}(hu:aV γ σ.mem w p .val [u])(hv:aV γ σ.mem w q .val [v])
  (hr:(FL σ (find cx.T xt) (bC cx.cO xt) op p q).run=some r):∃z,(dx op xt x y u v).run P w=.ok z w∧aV γ σ.mem w r .val [z]:=by
 unfold FL at hr;split at hr
 ·rename_i b ag p;obtain⟨hb,hr2⟩:=ai hr;simp only[bY] at hb;obtain⟨bx,gW,aC⟩:=eO hb.1;obtain⟨blk,cap,_,hval⟩:=aD gW aC hu.2;obtain rfl:u=_:=by simpa using hval
  obtain rfl:v=_:=by simpa [aV] using hv
  obtain⟨el,K3⟩:=hc.cO _ hb.2;have q:=lF (P:=P) (w:=w) (x:=x) (y:=y) K3 (some ⟨blk,bt p,none⟩) none (.inr rfl);split at hr2
  ·rename_i e he;obtain rfl:=au hr2;rcases iQ he with ⟨rfl,rfl⟩|⟨rfl,rfl⟩
   ·exact⟨_,q.1,cX _⟩
   ·exact⟨_,q.2,cX _⟩
  ·cases hr2
 ·rename_i b ag p;obtain⟨hb,hr2⟩:=ai hr;simp only[bY] at hb;obtain⟨bx,gW,aC⟩:=eO hb.1;obtain⟨blk,cap,_,hval⟩:=aD gW aC hv.2;obtain rfl:v=_:=by simpa using hval
  obtain rfl:u=_:=by simpa [aV] using hu
  obtain⟨el,K3⟩:=hc.cO _ hb.2;have q:=lF (P:=P) (w:=w) (x:=x) (y:=y) K3 none (some ⟨blk,bt p,none⟩) (.inl rfl);split at hr2
  ·rename_i e he;obtain rfl:=au hr2;rcases iQ he with ⟨rfl,rfl⟩|⟨rfl,rfl⟩
   ·exact⟨_,q.1,cX _⟩
   ·exact⟨_,q.2,cX _⟩
  ·cases hr2
 ·exact D7 hc hu hv hr
theorem F2{op:UnOp}{u:Value}{p r:av}(hu:aV γ σ.mem w p .val [u])(hr:(un op p).run=some r):∃z,(Op.unary op u).run P w=.ok z w∧aV γ σ.mem w r .val [z]:=by
 unfold un at hr;split at hr
 ·obtain rfl:=mN hu;obtain rfl:=au hr;exact⟨_,rfl,cX _⟩
 ·obtain⟨rfl,h1⟩:=jz hu;obtain rfl:=au hr;exact⟨_,rfl,mkInt (cu _ _)⟩
 ·obtain⟨rfl,h1⟩:=jz hu;obtain rfl:=au hr;rename_i k n;refine⟨_,?_,mkInt (cu _ _)⟩;cases hk:k.signed<;>simp[Op.unary,Op.intBits,cL,hk]
 ·cases hr
theorem F3(hm:aG B γ σ.mem w){b:Nat}{bx:aI}(hb:σ.mem b=some bx){blk cap:Nat}(hl:γ.loc b=some (blk,cap)){p:List pI}{v:av}(hn:(D0 bx.buf p bx.val).run=some v) :
  ∃cur tid fr,w.heap[blk]?=some (.cells cur tid fr)∧gu cur fr∧bt p+bA v≤cur.size∧aV γ σ.mem w v .cells ((cur.toList.drop (bt p)).take (bA v)):=by
 have ew:=hm.boxes b bx hb;unfold bn at ew;unfold D0 at hn;cases aJ:bx.buf with
 | false =>
   rw[aJ] at ew hn;obtain⟨bQ,cap',cur,tid,fr,h1,h2,h3,cQ,h4⟩:=ew;rw[hl] at h1;obtain⟨rfl,rfl⟩:=bM (au h1);obtain⟨k1,k2⟩:=kT h4 hn;exact⟨cur,tid,fr,h2,h3,by simpa using k1,k2⟩
 | true =>
   rw[aJ] at ew hn;obtain⟨e,l,h1,h2,h3⟩:=ew;rw[h1] at hn;rcases h3 with ⟨h3,_⟩|⟨bQ,cap',cur,tid,fr,h3,h4,h5,cQ,h6,h7,h8,h9⟩
   ·rw[hl] at h3;cases h3
   ·rw[hl] at h3;obtain⟨rfl,rfl⟩:=bM (au h3);cases p with
    | nil=>cases hn
    | cons s p =>
      cases s with
      | yp k off=>cases hn
      | idx i size =>
        obtain⟨hsb,hn2⟩:=ai hn;have hsz:=cB hsb;obtain⟨x,hx,HX⟩:=aR hn2;obtain⟨h0,hx2⟩:=ji hx;have hr:=h9 _ x hx2;have hrl:=hr.length;have hi:i.toNat<l.length:=(List.getElem?_eq_some_iff.1 hx2).1;have hm2:(i.toNat+1)*e.size≤cap*e.size:=jf _ (by omega);rw[nx] at hm2;obtain⟨k1,k2⟩:=kT (v:=.data e x) (show aV γ σ.mem w (.data e x) .cells _ from hr) HX;rw[hrl] at k1;refine⟨cur,tid,fr,h4,h5.th,?_,?_⟩
        ·simp only[bt,hsz];omega
        ·rw[Dg,Fm,mD,rD (by omega)] at k2;simp only[bt,hsz];exact k2
theorem lZ{t:Ty}{tid:TypeId}(ht:Den P t tid){blk off:Nat}{x:t.den}{cs:List Value}(uY:aM w γ.I t x cs)(K4:(loadCells ⟨blk,off,none⟩ cs.length).run P w=.ok cs.toArray w)
  (hcell:∀(j:Nat) v,cs[j]?=some v→w.cell? ⟨blk,off+j,none⟩=some v):(loadVar tid ⟨blk,off,none⟩).run P w=.ok (bk t cs) w:=by
 unfold loadVar;rw[Sem.run_bind,ht.agg w,Result.andThen_ok];have hl:=uY.length;cases FZ:t.isAgg with
 | true =>
   simp only[iE,Sem.run_bind,ht.sizeOf w,Result.andThen_ok,←hl,K4,Sem.run_pure,bk,FZ,bZ]
 | false =>
   have hs:=jj FZ;rw[hs] at hl;obtain⟨c,rfl⟩:=List.length_eq_one_iff.1 hl;have:=hcell 0 c rfl;simp only[pH] at this;simp[bk,FZ,this]
theorem uZ:∀{u:Ty} {v:av},z6 u v=true→bA v=u.size:=by
 intro u;induction u with
 | pair a b eH fF =>
   intro v h;cases v with
   | data t x=>obtain rfl:=Ty.eq_of_beq (show Ty.beq t (.pair a b)=true from h);rfl
   | mix p q =>
     obtain⟨h1,h2⟩:=Bool.and_eq_true_iff.1 (show(D1 a p&&z6 b q)=true from h);have e1:bA p=a.size:=by
      unfold D1 at h1;split at h1
      ·rfl
      ·rename_i t u x _;obtain rfl:=Ty.eq_of_beq h1;rfl
      ·cases h1
     show bA p+bA q=a.size+b.size
     rw[e1,fF h2]
   | _=>cases h
 | _ =>
   intro v h;cases v with
   | data t x=>obtain rfl:=Ty.eq_of_beq h;rfl
   | _=>cases h
theorem D8{u:Ty}{v:av}(h1:D1 u v=true):bA v=u.size:=by
 unfold D1 at h1;split at h1
 ·rfl
 ·rename_i t u x _;obtain rfl:=Ty.eq_of_beq h1;rfl
 ·cases h1
theorem Ak(hc:dw P cx){ty:TypeId}{x:Operand}(h:bE B N γ σ a w)(hr:(fh cx d ty (aZ σ x) σ).run=some σ') :
  ∃u val ad,σ'=σ.aA d u∧a.eval x=.pointer (some ad)∧(loadVar ty ad).run P w=.ok val w∧aV γ σ.mem w u .val [val]:=by
 have hv:=h.aZ x;unfold fh at hr;split at hr
 ·rename_i u y hx;rw[hx] at hv;obtain⟨hb,hr2⟩:=ai hr;obtain rfl:=au hr2;have ht:=hc.T _ _ (dR hb);obtain⟨blk,off,cs,h1,h2,h3⟩:=hv;obtain h1:a.eval x=_:=by simpa using h1
  have hl:=lZ (P:=P) ht h2 (rP h3) (fun j v hj=>(h3 j v hj).1);exact⟨_,_,_,rfl,h1,hl,cs,h2,rfl⟩
 ·rename_i b ag p hx;rw[hx] at hv;split at hr
  ·rename_i bx hb;obtain⟨aC,hr2⟩:=ai hr;have aC:=cB aC;obtain⟨v,hn,dV⟩:=bind_some hr2;obtain⟨zM,fZ⟩:=ai dV;obtain rfl:=au fZ;obtain⟨blk,cap,hl,hval⟩:=aD hb aC hv.2;obtain hval:a.eval x=_:=by simpa using hval
   obtain⟨cur,tid,fr,g1,g2,g3,g4⟩:=F3 h.ok hb hl hn;have Mk:=oO (P:=P) g1 g3;have Ml:=g4.length;have hcells:∀(j:Nat) v',((cur.toList.drop (bt p)).take (bA v))[j]?=some v'→w.cell? ⟨blk,bt p+j,none⟩=some v':=fun j v' hj=>by
    rw[cell_of_heap g1];rw[jw] at hj;split at hj
    ·rw[nk] at hj;simpa using hj
    ·cases hj
   have single:∀(hone:(isAgg ty).run P w=.ok false w) (h1:bA v=1) (sH:∀c,aV γ σ.mem w v .cells [c]→aV γ σ.mem w v .val [c]),
     ∃u val ad,σ.aA d v=σ.aA d u∧a.eval x=.pointer (some ad)∧(loadVar ty ad).run P w=.ok val w∧aV γ σ.mem w u .val [val]:=by
    intro hone h1 sH;rw[h1] at Ml g4 hcells;obtain⟨c,E2⟩:=List.length_eq_one_iff.1 Ml;rw[E2] at g4 hcells;have:=hcells 0 c rfl;simp only[pH] at this;refine⟨_,c,_,rfl,hval,?_,sH c g4⟩;simp[loadVar,hone,this]
   cases v with
   | mix p' q' =>
     rw[show lA cx ty (.mix p' q')=false from rfl,DW] at zM;simp only[mG] at zM;split at zM
     ·rename_i u hT;have ht:=hc.T _ _ hT;have N5:=uZ zM;have FZ:Ty.isAgg u=true:=by
       cases u with
       | pair a b=>rfl
       | _=>cases zM
      refine⟨_,.agg ((cur.toList.drop (bt p)).take (bA (.mix p' q'))).toArray,_,rfl,hval,?_,?_⟩
      ·rw[N5] at Mk⊢;simp only[loadVar,Sem.run_bind,ht.agg w,FZ,Result.andThen_ok,iE,ht.sizeOf w,Mk,Sem.run_pure]
      ·obtain⟨c1,c2,e1,e2,e3⟩:=g4;exact⟨c1,c2,by rw[e1],e2,e3⟩
     ·cases zM
   | data u y =>
     rw[show mG cx ty (.data u y)=false from rfl,FD] at zM;have ht:=hc.T _ _ (dR zM);have Bw:=lZ (P:=P) ht g4 (by rw[Ml];exact Mk) hcells;exact⟨_,_,_,rfl,hval,Bw,_,g4,rfl⟩
   | whole b' BT =>
     rw[show mG cx ty (.whole b' BT)=false from rfl,FD] at zM;simp only[lA] at zM;split at zM
     ·rename_i e hT;exact single (by have:=(hc.T _ _ hT).agg w;exact this) rfl (fun c k=>k)
     ·cases zM
   | ptr b' BT p'=>exact single ((hc.jy _ (by simpa [mG,lA] using zM)).1 w) rfl (fun c k=>k)
   | iL=>exact single ((hc.jy _ (by simpa [mG,lA] using zM)).1 w) rfl (fun c k=>k)
   | fn f caps=>exact single ((hc.jy _ (by simpa [mG,lA] using zM)).1 w) rfl (fun c k=>k)
   | _=>cases zM
  ·cases hr
 ·cases hr
theorem u5(hc:dw P cx){ty:TypeId}{x:Operand}(h:bE B N γ σ a w)(hd:∀k,d=some k→k<N)(hr:(fh cx d ty (aZ σ x) σ).run=some σ') :
  gv P B N γ σ a w d (Instr.loadAt ty (a.eval x)) σ':=by
 obtain⟨u,val,ad,rfl,h1,h2,h3⟩:=Ak hc h hr;refine aL h hd ?_ h3;rw[h1];simp only[Instr.loadAt,Instr.sureAddr,Sem.run_bind,Sem.run_pure,Result.andThen_ok,h2]
end
end Go.Ge
namespace Go.Ge
open RowKit
section
variable {P:Program} {B:iP} {N:Nat} {γ:Gh} {σ σ':St} {a:Act} {w:World} {d:Option Nat} {cx:Ctx}
theorem sI{s:TypeId}{fs:Array Field}{k:Nat}{f:Field}{u:Ty}(hs:P.underlying s=some (.struct fs))(hf:fs.toList[k]?=some f)(hu:Den P u f.type)(h0:0<u.size)(blk off:Nat) :
  (Instr.fieldAt s (.pointer (some ⟨blk,off,none⟩)) k).run P w=.ok (.pointer (some ⟨blk,off+f.offset,none⟩)) w:=by
 have hf':fs[k]?=some f:=by simpa using hf
 have hz:¬(u.size=0):=by omega
 simp only[Instr.fieldAt,Sem.run_bind,run_underlying hs,Result.andThen_ok,hf',Instr.sureAddr,Sem.run_pure,fieldPlace,hu.sizeOf w,cY hz,addr_add]
theorem yH{s:TypeId}{fs:Array Field}{k:Nat}{f:Field}{i:TypeInfo}(hs:P.underlying s=some (.struct fs))(hf:fs.toList[k]?=some f)(hi:P.info? f.type=some i)(h0:0<i.size)(blk off:Nat) :
  (Instr.fieldAt s (.pointer (some ⟨blk,off,none⟩)) k).run P w=.ok (.pointer (some ⟨blk,off+f.offset,none⟩)) w:=by
 have hf':fs[k]?=some f:=by simpa using hf
 have hz:¬(i.size=0):=by omega
 have hsz:(Go.sizeOf f.type).run P w=.ok i.size w:=by simp[Go.sizeOf,typeInfo,hi]
 simp only[Instr.fieldAt,Sem.run_bind,run_underlying hs,Result.andThen_ok,hf',Instr.sureAddr,Sem.run_pure,fieldPlace,hsz,cY hz,addr_add]
theorem pP{t:Ty}{s:TypeId}(ht:Den P t s){k:Nat}{u:Ty}{o:Nat}(hu:jW t k=some u)(ho:eA t k=some o) :
  ∃(fs:Array Field) (f:Field),P.underlying s=some (.struct fs)∧fs.toList[k]?=some f∧f.offset=o∧Den P u f.type∧0<u.size:=by
 cases t with
 | pair a b =>
   obtain⟨fs,h1,h2,_⟩:=ht.pair;obtain⟨f,k1,k2,k3,k4⟩:=h2.at hu ho;exact⟨fs,f,h1,k1,by omega,k3,k4⟩
 | _=>cases k<;>cases hu
theorem oP(hc:dw P cx){s:TypeId}{x:Operand}{k:Nat}(h:bE B N γ σ a w)(hd:∀k,d=some k→k<N)(hr:(b9 cx d s (aZ σ x) k σ).run=some σ') :
  gv P B N γ σ a w d (Instr.fieldAt s (a.eval x) k) σ':=by
 have hv:=h.aZ x;unfold b9 at hr;split at hr
 ·rename_i u y hx;rw[hx] at hv;obtain⟨hb,hr2⟩:=ai hr;have ht:=hc.T _ _ (dR hb);split at hr2
  ·rename_i o t z hf;obtain rfl:=au hr2;obtain⟨blk,off,cs,h1,h2,h3⟩:=hv;obtain h1:a.eval x=_:=by simpa using h1
   obtain⟨t',z',e1,e2,e3,e4,e5⟩:=pO (w:=w) h2 (show gL u y k=some (o,.data t z) from hf);cases e1;obtain⟨fs,f,g1,g2,g3,g4,g5⟩:=pP ht e2 e3;refine aL h hd (by rw[h1];exact sI g1 g2 g4 g5 blk off) ⟨blk,off+f.offset,(cs.drop o).take t.size,rfl,e5,fun j v hj=>?_⟩;rw[jw] at hj;split at hj
   ·rw[nk] at hj;have:=h3 _ v hj;rw[g3,rE];exact this
   ·cases hj
  ·cases hr2
 ·rename_i b ag p hx;rw[hx] at hv;obtain⟨hb,hr2⟩:=ai hr;obtain⟨bx,gW,aC⟩:=eO hb;split at hr2
  ·rename_i t hT;split at hr2
   ·rename_i off u ho hu;obtain rfl:=au hr2;obtain⟨blk,cap,hl,hval⟩:=aD gW aC hv.2;obtain hval:a.eval x=_:=by simpa using hval
    obtain⟨fs,f,g1,g2,g3,g4,g5⟩:=pP (hc.T _ _ hT) hu ho;refine aL h hd (by rw[hval];exact sI g1 g2 g4 g5 blk (bt p)) ⟨⟨_,rfl,rfl⟩,bx,gW,by omega,fun _=>⟨blk,cap,hl,?_⟩⟩;rw[nF,g3];simp[bt]
   ·cases hr2
  ·split at hr2
   ·rename_i fs hO;split at hr2
    ·rename_i off ho;obtain rfl:=au hr2;obtain⟨blk,cap,hl,hval⟩:=aD gW aC hv.2;obtain hval:a.eval x=_:=by simpa using hval
     obtain⟨gs,f,i,g1,g2,g3,g4,g5⟩:=HW (hc.jV _ _ hO) ho;refine aL h hd (by rw[hval];exact yH g1 g2 g4 g5 blk (bt p)) ⟨⟨_,rfl,rfl⟩,bx,gW,by omega,fun _=>⟨blk,cap,hl,?_⟩⟩;rw[nF,g3];simp[bt]
    ·cases hr2
   ·cases hr2
 ·cases hr
theorem Al(hc:dw P cx){xt:TypeId}{k o:Nat}{u:Ty}{y:u.den}{v:av}{val:Value}(hu:find cx.T xt=some u)(hv:aV γ σ.mem w (.data u y) .val [val])(hf:fK (.data u y) k=some (o,v)) :
  ∃z,(Instr.field xt val k).run P w=.ok z w∧aV γ σ.mem w v .val [z]:=by
 have ht:=hc.T _ _ hu;obtain⟨cs,h1,rfl⟩:=b5.1 hv;obtain⟨t',z',rfl,e2,e3,e4,e5⟩:=pO (w:=w) h1 hf;obtain⟨fs,f,g1,g2,g3,g4,g5⟩:=pP ht e2 e3;have Mm:u.isAgg=true:=by cases u<;>first|rfl|(cases k<;>cases e2)
 refine⟨bk t' ((cs.drop o).take t'.size),?_,⟨_,e5,rfl⟩⟩;have hf':fs[k]?=some f:=by simpa using g2
 have hp:=ow (P:=P) (w:=w) g4 (cs:=cs.toArray) (off:=f.offset) (by rw[g3];simpa using e4) jj;simp only[bk,Mm,bZ,Instr.field,Sem.run_bind,run_underlying g1,Result.andThen_ok,hf',asAgg,Sem.run_pure,hp];rw[g3]
theorem fN{t bN:TypeId}{sz:Nat}(ht:P.underlying t=some (.slice bN))(hs:(Go.sizeOf bN).run P w=.ok sz w)(blk off len cap:Nat)(k:IntKind){i:Int}(h0:0≤i)(h1:i<len) :
  (Instr.indexAt t (.slice (some ⟨blk,off,none⟩) len cap) (.int k i)).run P w=.ok (.pointer (some ⟨blk,off+i.toNat*sz,none⟩)) w:=by
 simp only[Instr.indexAt,asIntOf,Sem.run_bind,Sem.run_pure,Result.andThen_ok,run_underlying ht,uA,h0,h1,iE,hs,addr_add]
theorem mZ{t bN:TypeId}{sz n:Nat}(ht:P.underlying t=some (.array n bN))(hs:(Go.sizeOf bN).run P w=.ok sz w)(blk off:Nat)(k:IntKind){i:Int}(h0:0≤i)(h1:i<n) :
  (Instr.indexAt t (.pointer (some ⟨blk,off,none⟩)) (.int k i)).run P w=.ok (.pointer (some ⟨blk,off+i.toNat*sz,none⟩)) w:=by
 simp only[Instr.indexAt,asIntOf,Sem.run_bind,Sem.run_pure,Result.andThen_ok,run_underlying ht,Instr.sureAddr,uA,h0,h1,iE,hs,addr_add]
theorem nJ{i n:Int}(h:within i n=true):0≤i∧i<n:=by
 simp only[within,bY,wG] at h;exact h
theorem fO{i j n:Int}(h:inside i j n=true):0≤i∧i≤j∧j≤n:=by
 simp only[inside,bY,wG] at h;exact⟨h.1.1,h.1.2,h.2⟩
theorem qy{b ag:Nat}{e:Ty}{n:Int}(h:mH σ b ag=some (e,n)):∃(bx:aI) (k:Nat),σ.mem b=some bx∧bx.ag=ag∧bx.row=some (e,k)∧n=k:=by
 unfold mH at h;split at h
 ·rename_i bx hb;cases aC:Nat.beq bx.ag ag with
  | false=>rw[aC] at h;cases h
  | true =>
    rw[aC] at h;simp only[bZ] at h;split at h
    ·rename_i e' l aJ hval;obtain⟨rfl,rfl⟩:=bM (au h);exact⟨bx,_,hb,cB aC,by rw[aI.row,aJ,hval],rfl⟩
    ·rename_i n' e' l aJ hval;obtain⟨rfl,rfl⟩:=bM (au h);exact⟨bx,_,hb,cB aC,by rw[aI.row,aJ,hval],rfl⟩
    ·cases h
 ·cases h
theorem aI.bD{bx:aI}{e:Ty}{l:List e.den}(hb:bx.buf=true)(hv:bx.val=.data (.slice e) l):bx.row=some (e,l.length):=by rw[aI.row,hb,hv]
theorem aI.ia{bx:aI}{e:Ty}{n:Nat}{l:(Ty.arr n e).den}(hb:bx.buf=false)(hv:bx.val=.data (.arr n e) l):bx.row=some (e,n):=by rw[aI.row,hb,hv]
theorem mO(hc:dw P cx){t e:Nat}(h:xM cx t=some e):P.underlying t=some (.slice e)∧bC cx.jy e=true:=by
 unfold xM at h;split at h
 ·cases h
 ·split at h
  ·rename_i u hu;cases hm:bC cx.jy u with
   | false=>rw[hm] at h;cases h
   | true =>
     rw[hm] at h;obtain rfl:=au h;exact⟨hc.els _ _ hu,hm⟩
  ·cases h
theorem BU{b ag:Nat}{i:Int}:∀{m k:Nat},(uE d b ag σ i m k).run=some σ'→∃j:Nat,k≤j∧j<k+m∧i=j∧σ'=σ.aA d (.ptr b ag [.yp j j]):=by
 intro m;induction m with
 | zero=>intro k hr;cases hr
 | succ m ih =>
   intro k hr;have hn:=cT hr;cases hi:iG i k with
   | true =>
     rw[hi] at hn;obtain rfl:=au hn;exact⟨k,dB _,by omega,by simpa [iG] using hi,rfl⟩
   | false =>
     rw[hi] at hn;obtain⟨j,h1,h2,h3,h4⟩:=ih hn;exact⟨j,by omega,by omega,h3,h4⟩
theorem sJ{q:List pI}(h:uc q=true):bt q=0:=by
 unfold uc at h;split at h
 ·simp[bt,cB h]
 ·cases h
theorem jC(hc:dw P cx){ty:TypeId}{x:Operand}{ki:IntKind}{i:Int}(h:bE B N γ σ a w)(hd:∀k,d=some k→k<N)(hr:(bW cx d ty (aZ σ x) i σ).run=some σ') :
  gv P B N γ σ a w d (Instr.indexAt ty (a.eval x) (.int ki i)) σ':=by
 have hv:=h.aZ x;unfold bW at hr;split at hr
 ·rename_i u e l hT hx;rw[hx] at hv;obtain⟨hb,hr2⟩:=ai hr;obtain rfl:=Ty.eq_of_beq hb;obtain⟨y,hy,dV⟩:=aR hr2;obtain rfl:=au dV;obtain⟨h0,wB⟩:=ji hy;obtain⟨bN,k1,k2,k3,k4⟩:=(hc.T _ _ hT).slice;obtain⟨cs,h1,hval⟩:=b5.1 hv;have hi:i.toNat<List.length (α:=u.den) l:=(List.getElem?_eq_some_iff.1 wB).1;rcases h1 with ⟨_,h1⟩|⟨blk,off,cap,h1,h2,h3,h4⟩
  ·exfalso;have:List.length (α:=u.den) l=0:=by rw[show l=([]:List u.den) from h1];rfl
   omega
  ·rw[h1] at hval;have sH:a.eval x=.slice (some ⟨blk,off,none⟩) (List.length (α:=u.den) l) cap:=hval;obtain⟨es,g1,g2,g3⟩:=h4 _ y wB;refine aL h hd (by rw[sH];exact fN k1 (k2.sizeOf w) blk off _ cap ki h0 (by omega)) ⟨blk,off+i.toNat*u.size,es,rfl,g3,fun j v hj=>?_⟩;exact g2 j v hj
 ·rename_i m u n e l hT hx;rw[hx] at hv;obtain⟨hb,hr2⟩:=ai hr;simp only[bY] at hb;obtain rfl:=Ty.eq_of_beq hb.1;obtain rfl:=cB hb.2;obtain⟨y,hy,dV⟩:=aR hr2;obtain rfl:=au dV;obtain⟨h0,wB⟩:=ji hy;obtain⟨bN,k1,k2,k3⟩:=(hc.T _ _ hT).arr;obtain⟨blk,off,cs,h1,h2,h3⟩:=hv;obtain h1:a.eval x=_:=by simpa using h1
  have hi:i.toNat<m:=by have:=(List.getElem?_eq_some_iff.1 wB).1;have:=h2.1;omega
  have fZ:=h2.2.2 _ y wB;refine aL h hd (by rw[h1];exact mZ k1 (k2.sizeOf w) blk off ki h0 (by omega)) ⟨blk,off+i.toNat*u.size,_,rfl,fZ,fun j v hj=>?_⟩;rw[jw] at hj;split at hj
  ·rw[nk] at hj;have:=h3 _ v hj;rw[rE];exact this
  ·cases hj
 ·rename_i u b ag hT hx;rw[hx] at hv;split at hr
  ·rename_i e n he;obtain⟨hb,hr2⟩:=ai hr;obtain rfl:=Ty.eq_of_beq hb;obtain⟨hw,dV⟩:=aX hr2;obtain rfl:=au dV;obtain⟨h0,h1⟩:=nJ hw;obtain⟨bx,k,gW,aC,hrow,rfl⟩:=qy he;obtain⟨bN,k1,k2,k3,k4⟩:=(hc.T _ _ hT).slice;obtain⟨e',n',g1,g2,g3⟩:=aD gW aC hv.2;rw[hrow] at g2;obtain⟨rfl,rfl⟩:=bM (au g2);rcases g3 with ⟨g3,g4⟩|⟨blk,cap,g3,g4⟩
   ·exfalso;have ew:=h.ok.boxes b bx gW;rw[bn,g1] at ew;obtain⟨e2,l,j1,j2,j3⟩:=ew;rcases j3 with ⟨_,j4⟩|⟨_,_,_,_,_,j3,_⟩
    ·rw[aI.bD g1 j1,j4] at hrow;have:0=k:=by
      have:=(bM (au hrow)).2;simpa using this
     omega
    ·rw[g3] at j3;cases j3
   ·obtain g4:a.eval x=_:=by simpa using g4
    refine aL h hd (by rw[g4];exact fN k1 (k2.sizeOf w) blk 0 _ cap ki h0 h1) ⟨⟨_,rfl,rfl⟩,bx,gW,by omega,fun _=>⟨blk,cap,g3,by simp[bt]⟩⟩
  ·cases hr
 ·rename_i u b ag lo n hT hx;rw[hx] at hv;split at hr
  ·rename_i e n2 he;obtain⟨hb,hr2⟩:=ai hr;obtain rfl:=Ty.eq_of_beq hb;obtain⟨hw,dV⟩:=aX hr2;obtain rfl:=au dV;obtain⟨h0,h1⟩:=nJ hw;obtain⟨bx,k,gW,aC,hrow,rfl⟩:=qy he;obtain⟨bN,k1,k2,k3,k4⟩:=(hc.T _ _ hT).slice;obtain⟨e',n',g2,g3,g4,g5,base,cap,g6,g7,g8,gF,g9⟩:=aD gW aC hv.2;rw[hrow] at g2;obtain⟨rfl,rfl⟩:=bM (au g2);rcases g9 with g9|⟨blk,c,g9,g10⟩
   ·omega
   ·obtain g6:a.eval x=_:=by simpa using g6
    refine aL h hd (by rw[g6,g10];exact fN k1 (k2.sizeOf w) blk _ _ cap ki h0 (by omega)) ⟨⟨_,rfl,rfl⟩,bx,gW,by omega,fun _=>⟨blk,c,g9,?_⟩⟩;have:(plus lo i).toNat=lo.toNat+i.toNat:=by simp only[plus];omega
    simp only[bt,this,mE,pH]
  ·cases hr
 ·rename_i m u b ag p hT hx;rw[hx] at hv;obtain⟨hb,hr2⟩:=ai hr;obtain⟨bx,gW,aC⟩:=eO hb;obtain⟨hw,dV⟩:=aX hr2;obtain rfl:=au dV;obtain⟨h0,h1⟩:=nJ hw;obtain⟨bN,k1,k2,k3⟩:=(hc.T _ _ hT).arr;obtain⟨blk,cap,hl,hval⟩:=aD gW aC hv.2;obtain hval:a.eval x=_:=by simpa using hval
  refine aL h hd (by rw[hval];exact mZ k1 (k2.sizeOf w) blk _ ki h0 h1) ⟨⟨_,rfl,rfl⟩,bx,gW,by omega,fun _=>⟨blk,cap,hl,?_⟩⟩;rw[nF];simp[bt]
 ·rename_i b ag q e0 k0 lo n hT hx;rw[hx] at hv;split at hr
  ·rename_i e he;obtain⟨hb,hr2⟩:=ai hr;simp only[bY,wG] at hb;obtain⟨⟨hq,rfl⟩,hl⟩:=hb;obtain⟨bx,gW,aC⟩:=eO hl;obtain⟨k1,k2⟩:=mO hc he;obtain⟨j,_,hj,rfl,rfl⟩:=BU hr2;obtain⟨_,blk,c,g1,g2,g3,g4,base,cap,g5,g6,g7⟩:=aD gW aC hv.2;obtain g5:a.eval x=_:=by simpa using g5
   rcases g7 with g7|g7
   ·subst g7;simp at hj
   ·rw[sJ hq] at g7;have hj':((j:Nat):Int)<(n.toNat:Int):=by omega
    refine aL h hd (by rw[g5,g7];exact fN k1 ((hc.jy _ k2).2.1 w) blk _ _ cap ki (by omega) hj') ⟨⟨_,rfl,rfl⟩,bx,gW,by omega,fun _=>⟨blk,c,g1,?_⟩⟩;simp[bt]
  ·cases hr
 ·cases hr
theorem tD(hc:dw P cx){ty:TypeId}{x:Operand}{ki:IntKind}{i:Int}(h:bE B N γ σ a w)(hd:∀k,d=some k→k<N)(hr:(fy cx d ty (aZ σ x) i σ).run=some σ') :
  gv P B N γ σ a w d (Instr.indexAt ty (a.eval x) (.int ki i)) σ':=by
 have hv:=h.aZ x;unfold fy at hr;split at hr
 ·rename_i b ag q e0 k0 lo n e hx he;rw[hx] at hv;obtain⟨hb,hr2⟩:=ai hr;simp only[bY,wG] at hb;obtain⟨⟨hq,rfl⟩,hl⟩:=hb;obtain⟨bx,gW,aC⟩:=eO hl;obtain⟨k1,k2⟩:=mO hc he;split at hr2
  ·rename_i j;obtain⟨hj,dV⟩:=ai hr2;obtain rfl:=au dV;have hj:=BD hj;obtain⟨_,blk,c,g1,g2,g3,g4,base,cap,g5,g6,g7⟩:=aD gW aC hv.2;obtain g5:a.eval x=_:=by simpa using g5
   rcases g7 with g7|g7
   ·subst g7;omega
   ·rw[sJ hq] at g7;have hj':((j:Nat):Int)<(n.toNat:Int):=by omega
    show gv P B N γ σ a w d (Instr.indexAt ty (a.eval x) (.int ki (j:Int))) _
    refine aL h hd (by rw[g5,g7];exact fN k1 ((hc.jy _ k2).2.1 w) blk _ _ cap ki (by omega) hj') ⟨⟨_,rfl,rfl⟩,bx,gW,by omega,fun _=>⟨blk,c,g1,?_⟩⟩;simp[bt]
  ·cases hr2
 ·exact jC hc h hd hr
theorem u8_in(b:UInt8):IntKind.u8.min≤u8 b∧u8 b≤IntKind.u8.max:=by
 have:=b.toNat_lt;have h1:IntKind.u8.min=0:=by decide
 have h2:IntKind.u8.max=255:=by decide
 simp only[u8,h1,h2];omega
theorem tE(hc:dw P cx){ty:TypeId}{x:Operand}{ki:IntKind}{i:Int}(h:bE B N γ σ a w)(hd:∀k,d=some k→k<N)(hr:(fA cx d ty (aZ σ x) i σ).run=some σ') :
  gv P B N γ σ a w d (Instr.index ty (a.eval x) (.int ki i)) σ':=by
 have hv:=h.aZ x;unfold fA at hr;split at hr
 ·rename_i s hT hx;rw[hx] at hv;obtain⟨b,hy,dV⟩:=aR hr;obtain rfl:=au dV;obtain⟨h0,wB⟩:=ji hy;obtain⟨hval,hl⟩:=lE hv;refine aL h hd (x:=.int .u8 (u8 b)) ?_ (mkInt (u8_in b));rw[hval];have hu:=(hc.T _ _ hT).str;have hg:(⟨List.toArray (show List UInt8 from s)⟩:ByteArray)[i.toNat]?=some b:=by
   have:=(List.getElem?_eq_some_iff.1 wB);obtain⟨q1,q2⟩:=this;have hsz:i.toNat<(⟨List.toArray (show List UInt8 from s)⟩:ByteArray).size:=q1;rw[getElem?_pos (⟨List.toArray (show List UInt8 from s)⟩:ByteArray) i.toNat hsz];exact congrArg some q2
  simp only[Instr.index,asIntOf,Sem.run_bind,Sem.run_pure,Result.andThen_ok,run_underlying hu,h0,iE,hg];rfl
 ·rename_i m u n e l hT hx;rw[hx] at hv;obtain⟨hb,hr2⟩:=ai hr;simp only[bY] at hb;obtain rfl:=Ty.eq_of_beq hb.1;obtain rfl:=cB hb.2;obtain⟨y,hy,dV⟩:=aR hr2;obtain rfl:=au dV;obtain⟨h0,wB⟩:=ji hy;obtain⟨bN,k1,k2,k3⟩:=(hc.T _ _ hT).arr;obtain⟨cs,h2,hval⟩:=b5.1 hv;have hi:i.toNat<m:=by have:=(List.getElem?_eq_some_iff.1 wB).1;have:=h2.1;omega
  have fZ:=h2.2.2 _ y wB;have hm:(i.toNat+1)*u.size≤m*u.size:=jf _ hi;rw[nx] at hm;have hcl:=h2.2.1;have hp:=ow (P:=P) (w:=w) k2 (cs:=cs.toArray) (off:=i.toNat*u.size) (by simp;omega) jj;refine aL h hd (x:=bk u ((cs.drop (i.toNat*u.size)).take u.size)) ?_ ⟨_,fZ,rfl⟩;have hi':i<(m:Int):=by omega
  rw[hval];show(Instr.index ty (.agg cs.toArray) (.int ki i)).run P w=_
  simp only[Instr.index,asIntOf,Sem.run_bind,Sem.run_pure,Result.andThen_ok,run_underlying k1,h0,hi',uA,iE,k2.sizeOf w,hp]
 ·cases hr
theorem N6(isSlice:Bool)(len cap:Nat):(Instr.sliceBounds isSlice len cap none none none).run P w=.ok (0,len,cap) w:=by simp[Instr.sliceBounds]
theorem N7(isSlice:Bool)(len cap:Nat)(k:IntKind){y:Int}(h0:0≤y)(h1:y≤cap):(Instr.sliceBounds isSlice len cap none (some (.int k y)) none).run P w=.ok (0,y.toNat,cap) w:=by
 have c1:(0:Int)≤y∧y≤(cap:Int):=⟨h0,h1⟩;simp only[Instr.sliceBounds,Instr.sliceBound,asIntOf,Sem.run_bind,Sem.run_pure,Result.andThen_ok,c1,uA,iE]
theorem N8(isSlice:Bool)(len cap:Nat)(k:IntKind){y:Int}(h0:0≤y)(h1:y≤len):(Instr.sliceBounds isSlice len cap (some (.int k y)) none none).run P w=.ok (y.toNat,len,cap) w:=by
 have c1:(0:Int)≤y∧y≤(len:Int):=⟨h0,h1⟩;simp only[Instr.sliceBounds,Instr.sliceBound,asIntOf,Sem.run_bind,Sem.run_pure,Result.andThen_ok,c1,uA,iE]
theorem Mn(isSlice:Bool)(len cap:Nat)(k k2:IntKind){y y2:Int}(h0:0≤y)(h1:y≤y2)(h2:y2≤cap):(Instr.sliceBounds isSlice len cap (some (.int k y)) (some (.int k2 y2)) none).run P w=.ok (y.toNat,y2.toNat,cap) w:=by
 have c1:(0:Int)≤y2∧y2≤(cap:Int):=⟨by omega,h2⟩;have c2:(0:Int)≤y∧y≤((y2.toNat:Nat):Int):=⟨h0,by omega⟩;simp only[Instr.sliceBounds,Instr.sliceBound,asIntOf,Sem.run_bind,Sem.run_pure,Result.andThen_ok,c1,uA,iE];simp only[c2,uA,iE,Sem.run_pure,Result.andThen_ok]
theorem gM{lo hi:Option Operand}{n:Int}{i j:Int}(h:bE B N γ σ a w)(hb:bounds σ n lo hi=some (i,j))(isSlice:Bool)(len cap:Nat)(hn:n=len)(hlc:len≤cap)(h0:0≤i)(h1:i≤j)(h2:j≤n) :
  (Instr.sliceBounds isSlice len cap (lo.map a.eval) (hi.map a.eval) none).run P w=.ok (i.toNat,j.toNat,cap) w:=by
 have H8:∀(o:Operand) k (m:Int),aZ σ o=.data (.int k) m→a.eval o=.int k m:=fun o k m e=>by
  have:=h.aZ o;rw[e] at this;exact(jz this).1
 unfold bounds at hb;cases lo with
 | none =>
   cases hi with
   | none =>
     obtain⟨rfl,rfl⟩:=bM (au hb);have:=N6 (P:=P) (w:=w) isSlice len cap;rw[hn];simpa using this
   | some o =>
     simp only at hb;split at hb
     ·rename_i k y hy;obtain⟨rfl,e2⟩:=bM (au hb);have e:=H8 o k _ hy;rw[show y=j from e2] at e;simp only[qf,Option.map_none,e];exact N7 isSlice len cap k h1 (by omega)
     ·cases hb
 | some o =>
   cases hi with
   | none =>
     simp only at hb;split at hb
     ·rename_i k y hy;obtain⟨e2,rfl⟩:=bM (au hb);have e:=H8 o k _ hy;rw[show y=i from e2] at e;simp only[qf,Option.map_none,e];have:=N8 (P:=P) (w:=w) isSlice len cap k h0 (by omega);rw[hn];simpa using this
     ·cases hb
   | some o2 =>
     simp only at hb;split at hb
     ·rename_i k y k2 y2 hy wB;obtain⟨e3,e4⟩:=bM (au hb);have e:=H8 o k _ hy;have e2:=H8 o2 k2 _ wB;rw[show y=i from e3] at e;rw[show y2=j from e4] at e2;simp only[qf,e,e2];exact Mn isSlice len cap k k2 h0 h1 (by omega)
     ·cases hb
theorem Am(s:List UInt8){i j:Int}(h0:0≤i)(h1:i≤j):(⟨s.toArray⟩:ByteArray).extract i.toNat j.toNat=⟨(sub s i (minus j i)).toArray⟩:=by
 have:(minus j i).toNat=j.toNat-i.toNat:=by simp only[minus];omega
 apply ByteArray.ext;rw[ByteArray.data_extract];apply zX;simp[sub,this,List.extract_eq_take_drop]
theorem BV{α:Type}(s:List α)(i n:Int):(sub s i n).length≤s.length:=by
 simp only[sub,gb,kL];omega
theorem F4{I:Nat→Nat→Prop}{e:Ty}{l:List e.den}{blk off cap i j:Nat}(h4:∀(k:Nat) (x:e.den),l[k]?=some x→∃es:List Value,es.length=e.size ∧
   (∀(q:Nat) v,es[q]?=some v→w.cell? ⟨blk,off+k*e.size+q,none⟩=some v∧I blk (off+k*e.size+q))∧aM w I e x es) (h1:i≤j) (h2:j≤l.length) (h3:l.length≤cap) (h5:cap≤maxLen) (base:Option Addr)
  (hb:base=some ⟨blk,off+i*e.size,none⟩∨(i=cap∧base=some ⟨blk,off,none⟩)) :
  aM w I (.slice e) ((l.drop i).take (j-i)) [.slice base (j-i) (cap-i)]:=by
 have hlen:((l.drop i).take (j-i)).length=j-i:=by simp;omega
 rcases hb with rfl|⟨rfl,rfl⟩
 ·refine .inr ⟨blk,off+i*e.size,cap-i,?_,?_,by omega,fun k x hk=>?_⟩
  ·show [Value.slice _ (j-i) _]=[Value.slice _ (List.length (α:=e.den) ((l.drop i).take (j-i))) _]
   rw[hlen]
  ·show List.length (α:=e.den) ((l.drop i).take (j-i))≤_
   rw[hlen];omega
  ·have hk':((l.drop i).take (j-i))[k]?=some x:=hk;rw[jw] at hk';split at hk'
   ·rw[nk] at hk';obtain⟨es,g1,g2,g3⟩:=h4 _ x hk';refine⟨es,g1,fun q v hq=>?_,g3⟩;have:=g2 q v hq;rw[mE,←rE] at this;exact this
   ·cases hk'
 ·have hji:j=i:=by omega
  subst hji;refine .inr ⟨blk,off,0,by simp,by simp,by omega,fun k x hk=>?_⟩;have hk':((l.drop j).take (j-j))[k]?=some x:=hk;simp at hk'
theorem sub_eq{α:Type}(l:List α){i j:Int}(h0:0≤i)(h1:i≤j):sub l i (minus j i)=(l.drop i.toNat).take (j.toNat-i.toNat):=by
 have:(minus j i).toNat=j.toNat-i.toNat:=by simp only[minus];omega
 rw[sub,this]
theorem sub_zero{α:Type}(l:List α):sub l 0 (minus 0 0)=[]:=by simp[sub,minus]
theorem D9{I:Nat→Nat→Prop}{e:Ty}{l:List e.den}{blk off cap:Nat}{i j:Int}(h4:∀(k:Nat) (x:e.den),l[k]?=some x→∃es:List Value,es.length=e.size ∧
   (∀(q:Nat) v,es[q]?=some v→w.cell? ⟨blk,off+k*e.size+q,none⟩=some v∧I blk (off+k*e.size+q))∧aM w I e x es) (h0:0≤i) (h1:i≤j) (h2:j≤l.length) (h3:l.length≤cap) (h5:cap≤maxLen) (base:Option Addr)
  (hb:base=some ⟨blk,off+i.toNat*e.size,none⟩∨(i.toNat=cap∧base=some ⟨blk,off,none⟩)) :
  aM w I (.slice e) (sub l i (minus j i)) [.slice base (j.toNat-i.toNat) (cap-i.toNat)]:=by
 rw[sub_eq l h0 h1];exact F4 (w:=w) h4 (by omega) (by omega) h3 h5 base hb
theorem j9.sub{base:Option Addr}{cap:Nat}(h:j9 base cap)(i s:Nat):j9 (if cap=i then base else base.map (·.add s)) (cap-i):=by
 rcases h with rfl|⟨blk,off,rfl⟩
 ·exact .inl (by omega)
 ·refine .inr ?_;split
  ·exact⟨blk,off,rfl⟩
  ·exact⟨blk,off+s,by rw[qf,addr_add]⟩
theorem qq.sub{bx:aI}{b:Nat}{lo i:Int}{base:Option Addr}{cap:Nat}(h:qq γ bx b lo base cap)(hlo:0≤lo)(h0:0≤i)(s:Nat) :
  qq γ bx b (plus lo i) (if cap=i.toNat then base else base.map (·.add (i.toNat*s))) (cap-i.toNat):=by
 intro e hb;have e1:lo=0:=by simp only[plus] at e;omega
 have e2:i=0:=by simp only[plus] at e;omega
 subst e1;subst e2;rcases h rfl hb with ⟨a1,rfl,rfl⟩|⟨blk,a1,rfl⟩
 ·exact .inl ⟨a1,by simp,rfl⟩
 ·refine .inr ⟨blk,by simpa using a1,?_⟩;split
  ·rfl
  ·simp[Addr.add]
theorem tF(hc:dw P cx){ty:TypeId}{x:Operand}{lo hi:Option Operand}(h:bE B N γ σ a w)(hd:∀k,d=some k→k<N)(hr:(fu cx d ty (aZ σ x) lo hi σ).run=some σ') :
  gv P B N γ σ a w d (Instr.sliceAt ty (a.eval x) (lo.map a.eval) (hi.map a.eval) none) σ':=by
 have hv:=h.aZ x;unfold fu at hr;split at hr
 ·
  rename_i s hT hx;rw[hx] at hv;split at hr
  ·rename_i i j hb;obtain⟨hin,hr2⟩:=aX hr;obtain rfl:=au hr2;obtain⟨h0,h1,h2⟩:=fO hin;obtain⟨hval,hl⟩:=lE hv;have hu:=(hc.T _ _ hT).str;have Ea:=gM (P:=P) h hb false (List.length (α:=UInt8) s) (List.length (α:=UInt8) s) rfl (dB _) h0 h1 h2;refine aL h hd (x:=.string ⟨(sub (α:=UInt8) s i (minus j i)).toArray⟩) ?_ (mkStr (gK (BV (α:=UInt8) s _ _) hl));rw[hval];have hsz:(⟨List.toArray (α:=UInt8) s⟩:ByteArray).size=List.length (α:=UInt8) s:=rfl;simp only[Instr.sliceAt,Instr.slice,Sem.run_bind,run_underlying hu,Result.andThen_ok,hsz,Option.isSome_none,BC,rG];rw[Ea];simp only[Result.andThen_ok,Sem.run_pure];rw[Am (show List UInt8 from s) h0 h1]
  ·cases hr
 ·
  rename_i u e l hT hx;rw[hx] at hv;obtain⟨Dr,eP⟩:=ai hr;obtain rfl:=Ty.eq_of_beq Dr;split at eP
  ·rename_i i j hb;obtain⟨hin,hr2⟩:=aX eP;obtain rfl:=au hr2;obtain⟨h0,h1,h2⟩:=fO hin;obtain⟨bN,k1,k2,k3,k4⟩:=(hc.T _ _ hT).slice;obtain⟨cs,uY,hval⟩:=b5.1 hv;have JC:len (α:=u.den) l=(List.length (α:=u.den) l:Int):=rfl;rcases uY with ⟨⟨F5,e1⟩,e2⟩|⟨blk,off,cap,e1,e2,e3,e4⟩
   ·have sH:a.eval x=.slice F5 0 0:=by rw[hval,e1];rfl
    have E3:List.length (α:=u.den) l=0:=by rw[show l=([]:List u.den) from e2];rfl
    rw[JC,E3] at h2;have HH:i=0:=by omega
    have hj0:j=0:=by omega
    subst HH;subst hj0;have Ea:=gM (P:=P) h hb true 0 0 (by rw[JC,E3]) (dB _) h0 h1 (by rw[JC,E3];exact h2);refine aL h hd (x:=.slice F5 0 0) ?_ ⟨_,.inl ⟨⟨F5,rfl⟩,?_⟩,rfl⟩
    ·rw[sH];simp only[Instr.sliceAt,Instr.slice,Sem.run_bind,run_underlying k1,Result.andThen_ok,Ea,k2.sizeOf w,Sem.run_pure];rfl
    ·exact sub_zero (α:=u.den) l
   ·have sH:a.eval x=.slice (some ⟨blk,off,none⟩) (List.length (α:=u.den) l) cap:=by rw[hval,e1];rfl
    have Ea:=gM (P:=P) h hb true (List.length (α:=u.den) l) cap JC e2 h0 h1 h2;have hj:j.toNat≤List.length (α:=u.den) l:=by rw[JC] at h2;omega
    have K5:=D9 (w:=w) (i:=i) (j:=j) e4 h0 h1 (by rw[JC] at h2;exact h2) e2 e3;refine aL h hd (x:=.slice (if cap=i.toNat then some ⟨blk,off,none⟩ else some ⟨blk,off+i.toNat*u.size,none⟩) (j.toNat-i.toNat) (cap-i.toNat)) ?_
     ⟨_,K5 (if cap=i.toNat then some ⟨blk,off,none⟩ else some ⟨blk,off+i.toNat*u.size,none⟩) (by
      split
      ·rename_i hcap;exact .inr ⟨hcap.symm,rfl⟩
      ·exact .inl rfl),rfl⟩
    rw[sH];simp only[Instr.sliceAt,Instr.slice,Sem.run_bind,run_underlying k1,Result.andThen_ok,Ea,k2.sizeOf w,Sem.run_pure,qf,addr_add]
  ·cases eP
 ·
  rename_i u c ag lo' n hT hx;rw[hx] at hv;split at hr
  ·rename_i bx gW;obtain⟨Dr,eP⟩:=ai hr;simp only[bY] at Dr;have aC:=cB Dr.1;split at eP
   ·rename_i i j hb;obtain⟨hin,hr2⟩:=aX eP;obtain rfl:=au hr2;obtain⟨h0,h1,h2⟩:=fO hin;obtain⟨bN,k1,k2,k3,k4⟩:=(hc.T _ _ hT).slice;obtain⟨e',k,g2,g3,g4,g5,base,cap,g6,g7,g8,gF,g9⟩:=aD gW aC hv.2;have Mo:u=e':=by
     have:=Dr.2;rw[g2] at this;exact Ty.eq_of_beq this
    subst Mo;obtain g6:a.eval x=_:=by simpa using g6
    have Ea:=gM (P:=P) h hb true n.toNat cap (by omega) g7 h0 h1 h2;refine aL h hd (x:=.slice (if cap=i.toNat then base else base.map (·.add (i.toNat*u.size))) (j.toNat-i.toNat) (cap-i.toNat)) ?_
     ⟨⟨_,rfl,rfl⟩,bx,gW,by omega,fun _=>⟨u,k,g2,by simp only[plus];omega,by simp only[minus];omega,by simp only[plus,minus];omega,(if cap=i.toNat then base else base.map (·.add (i.toNat*u.size))),cap-i.toNat,?_,?_,?_,⟨gF.1.sub _ _,gF.2.sub g3 h0 _⟩,?_⟩⟩
    ·rw[g6];simp only[Instr.sliceAt,Instr.slice,Sem.run_bind,run_underlying k1,Result.andThen_ok,Ea,k2.sizeOf w,Sem.run_pure]
    ·have:(minus j i).toNat=j.toNat-i.toNat:=by simp only[minus];omega
     rw[this]
    ·simp only[minus];omega
    ·omega
    ·rcases g9 with g9|⟨blk,c',g9,g10⟩
     ·exact .inl (by simp only[minus];omega)
     ·by_cases hcap:cap=i.toNat
      ·exact .inl (by simp only[minus];omega)
      ·refine .inr ⟨blk,c',g9,?_⟩;rw[cY hcap,g10];have:(plus lo' i).toNat=lo'.toNat+i.toNat:=by simp only[plus];omega
       simp only[qf,addr_add,this,mE]
   ·cases eP
  ·cases hr
 ·
  rename_i u c ag hT hx;rw[hx] at hv;split at hr
  ·rename_i bx gW;obtain⟨Dr,eP⟩:=ai hr;simp only[bY] at Dr;have aC:=cB Dr.1;split at eP
   ·rename_i e l ga;obtain⟨Mo,hr2⟩:=ai eP;obtain rfl:=Ty.eq_of_beq Mo;obtain⟨bN,k1,k2,k3,k4⟩:=(hc.T _ _ hT).slice;obtain⟨e',n',g1,g2,g3⟩:=aD gW aC hv.2;have hrow:bx.row=some (u,List.length (α:=u.den) l):=aI.bD Dr.2 ga;rw[hrow] at g2;obtain⟨rfl,rfl⟩:=bM (au g2);have ew:=h.ok.boxes c bx gW;rw[bn,g1] at ew;obtain⟨e2,l2,j1,j2,j3⟩:=ew;have K6:∃base cap,a.eval x=.slice base (List.length (α:=u.den) l) cap∧List.length (α:=u.den) l≤cap∧cap≤maxLen∧(((cap=0∧List.length (α:=u.den) l=0)∧γ.loc c=none∧base=none)∨∃blk,γ.loc c=some (blk,cap)∧base=some ⟨blk,0,none⟩):=by
     rw[ga] at j1;cases j1;rcases g3 with ⟨g3,g4⟩|⟨blk,cap,g3,g4⟩
     ·obtain g4:a.eval x=_:=by simpa using g4
      rcases j3 with ⟨_,j4⟩|⟨_,_,_,_,_,j3,_⟩
      ·have E3:List.length (α:=u.den) l=0:=by rw[j4];rfl
       exact⟨none,0,by rw[g4,E3],by omega,lO _,.inl ⟨⟨rfl,E3⟩,g3,rfl⟩⟩
      ·rw[g3] at j3;cases j3
     ·obtain g4:a.eval x=_:=by simpa using g4
      rcases j3 with ⟨j3,_⟩|⟨bQ,cap',cur,tid,fr,q1,q2,q3,cQ,q4,q5,q6,q7⟩
      ·rw[g3] at j3;cases j3
      ·rw[g3] at q1;obtain⟨rfl,rfl⟩:=bM (au q1);exact⟨_,cap,g4,q4,q5,.inr ⟨blk,g3,rfl⟩⟩
    obtain⟨base,cap,m1,m2,m3,m4⟩:=K6;have hF:j9 base cap:=by
     rcases m4 with ⟨⟨q2,_⟩,_⟩|⟨blk,q1,q2⟩
     ·exact .inl q2
     ·exact .inr ⟨blk,0,q2⟩
    have hZ:qq γ bx c 0 base cap:=fun _ _=>by
     rcases m4 with ⟨⟨q2,_⟩,q3,q4⟩|⟨blk,q1,q2⟩
     ·exact .inl ⟨q3,q4,q2⟩
     ·exact .inr ⟨blk,q1,q2⟩
    have Ds:∀{i j:Int},bounds σ (len (α:=u.den) l) lo hi=some (i,j)→0≤i→i≤j→j≤len (α:=u.den) l →
      (Instr.sliceAt ty (a.eval x) (lo.map a.eval) (hi.map a.eval) none).run P w=.ok (.slice (if cap=i.toNat then base else base.map (·.add (i.toNat*u.size))) (j.toNat-i.toNat) (cap-i.toNat)) w:=by
     intro i j hb h0 h1 h2;have Ea:=gM (P:=P) h hb true (List.length (α:=u.den) l) cap rfl m2 h0 h1 h2;rw[m1];simp only[Instr.sliceAt,Instr.slice,Sem.run_bind,run_underlying k1,Result.andThen_ok,Ea,k2.sizeOf w,Sem.run_pure]
    split at hr2
    ·obtain rfl:=au hr2;have:=Ds (i:=0) (j:=len (α:=u.den) l) rfl (by omega) (by simp only[len];omega) (by omega);have hjl:(len (α:=u.den) l).toNat=List.length (α:=u.den) l:=by simp[len]
     rw[hjl] at this;refine aL h hd (x:=a.eval x) ?_ hv;rw[this,m1]
     congr 1
     have:(base.map (·.add ((0:Int).toNat*u.size)))=base:=by cases base<;>simp[Addr.add]
     rw[this];simp
    ·split at hr2
     ·rename_i i j hb;obtain⟨hin,dV⟩:=aX hr2;obtain rfl:=au dV;obtain⟨h0,h1,h2⟩:=fO hin;have JC:len (α:=u.den) l=(List.length (α:=u.den) l:Int):=rfl;rw[JC] at h2;refine aL h hd (Ds hb h0 h1 h2)
       ⟨⟨_,rfl,rfl⟩,bx,gW,by omega,fun _=>⟨u,_,hrow,h0,by simp only[minus];omega,by simp only[minus];omega,(if cap=i.toNat then base else base.map (·.add (i.toNat*u.size))),cap-i.toNat,?_,?_,?_,⟨hF.sub _ _,by have:=hZ.sub (Dk 0) h0 u.size;rwa [show plus 0 i=i by simp[plus]] at this⟩,?_⟩⟩
      ·have:(minus j i).toNat=j.toNat-i.toNat:=by simp only[minus];omega
       rw[this]
      ·simp only[minus];omega
      ·omega
      ·by_cases hcap:cap=i.toNat
       ·exact .inl (by simp only[minus];omega)
       ·rcases m4 with ⟨q1,q3⟩|⟨blk,q1,q2⟩
        ·exact .inl (by simp only[minus];omega)
        ·refine .inr ⟨blk,cap,q1,?_⟩;rw[cY hcap,q2];simp only[qf,addr_add,lu]
     ·cases hr2
   ·cases eP
  ·cases hr
 ·
  rename_i m u c ag s q hT hx;rw[hx] at hv;obtain⟨H9,eP⟩:=ai hr;simp only[bY] at H9;obtain⟨bx,gW,aC⟩:=eO H9.1;have Mp:=tq H9.2;split at eP
  ·rename_i i j hb;obtain⟨hin,dV⟩:=aX eP;obtain rfl:=au dV;obtain⟨h0,h1,h2⟩:=fO hin;obtain⟨bN,k1,k2,k3⟩:=(hc.T _ _ hT).arr;obtain⟨blk,cap,hl,hval⟩:=aD gW aC hv.2;obtain hval:a.eval x=.pointer (some ⟨blk,bt (s::q),none⟩):=by simpa using hval
   have Ea:=gM (P:=P) h hb false m m rfl (dB _) h0 h1 h2;refine aL h hd (x:=.slice (some (if m=i.toNat then⟨blk,bt (s::q),none⟩ else(⟨blk,bt (s::q),none⟩:Addr).add (i.toNat*u.size))) (j.toNat-i.toNat) (m-i.toNat)) ?_
    ⟨⟨_,rfl,rfl⟩,bx,gW,by omega,fun _=>⟨by simp,blk,cap,hl,h0,by simp only[minus];omega,by simp only[minus];omega,some (if m=i.toNat then⟨blk,bt (s::q),none⟩ else(⟨blk,bt (s::q),none⟩:Addr).add (i.toNat*u.size)),m-i.toNat,?_,?_,?_⟩⟩
   ·rw[hval];simp only[Instr.sliceAt,Sem.run_bind,run_underlying k1,Result.andThen_ok,Instr.sureAddr,Sem.run_pure,Ea,k2.sizeOf w]
   ·have:(minus j i).toNat=j.toNat-i.toNat:=by simp only[minus];omega
    rw[this]
   ·simp only[minus];omega
   ·by_cases hcap:m=i.toNat
    ·exact .inl (by simp only[minus];omega)
    ·refine .inr ?_;rw[cY hcap];simp only[addr_add]
  ·cases eP
 ·
  rename_i m u c ag hT hx;rw[hx] at hv;split at hr
  ·rename_i bx gW;obtain⟨Dr,eP⟩:=ai hr;simp only[bY,oh] at Dr;have aC:=cB Dr.1;split at eP
   ·rename_i n e l ga;obtain⟨hq,hr2⟩:=ai eP;simp only[bY] at hq;obtain rfl:=cB hq.1.1;obtain rfl:=Ty.eq_of_beq hq.1.2;have Mp:=tq hq.2;split at hr2
    ·rename_i i j hb;obtain⟨hin,dV⟩:=aX hr2;obtain rfl:=au dV;obtain⟨h0,h1,h2⟩:=fO hin;obtain⟨bN,k1,k2,k3⟩:=(hc.T _ _ hT).arr;obtain⟨blk,cap,hl,hval⟩:=aD gW aC hv.2;obtain hval:a.eval x=.pointer (some ⟨blk,0,none⟩):=by simpa [bt] using hval
     have Ea:=gM (P:=P) h hb false m m rfl (dB _) h0 h1 h2;have hF:j9 (some (if m=i.toNat then⟨blk,0,none⟩ else(⟨blk,0,none⟩:Addr).add (i.toNat*u.size))) (m-i.toNat):=by
      refine .inr ?_;split
      ·exact⟨blk,0,rfl⟩
      ·exact⟨blk,0+i.toNat*u.size,by rw[addr_add]⟩
     refine aL h hd (x:=.slice (some (if m=i.toNat then⟨blk,0,none⟩ else(⟨blk,0,none⟩:Addr).add (i.toNat*u.size))) (j.toNat-i.toNat) (m-i.toNat)) ?_
      ⟨⟨_,rfl,rfl⟩,bx,gW,by omega,fun _=>⟨u,m,aI.ia Dr.2 ga,h0,by simp only[minus];omega,by simp only[minus];omega,some (if m=i.toNat then⟨blk,0,none⟩ else(⟨blk,0,none⟩:Addr).add (i.toNat*u.size)),m-i.toNat,?_,?_,?_,⟨hF,fun _ hb=>by rw[Dr.2] at hb;cases hb⟩,?_⟩⟩
     ·rw[hval];simp only[Instr.sliceAt,Sem.run_bind,run_underlying k1,Result.andThen_ok,Instr.sureAddr,Sem.run_pure,Ea,k2.sizeOf w]
     ·have:(minus j i).toNat=j.toNat-i.toNat:=by simp only[minus];omega
      rw[this]
     ·simp only[minus];omega
     ·simp only[maxLen];omega
     ·by_cases hcap:m=i.toNat
      ·exact .inl (by simp only[minus];omega)
      ·refine .inr ⟨blk,cap,hl,?_⟩;rw[cY hcap];simp only[addr_add,lu]
    ·cases hr2
   ·cases eP
  ·cases hr
 ·cases hr
end
end Go.Ge
namespace Go.Ge
open RowKit
section
variable {P:Program} {B:iP} {N:Nat} {γ:Gh} {σ σ':St} {a:Act} {w:World} {d:Option Nat} {cx:Ctx}
theorem aM.flat{w w':World}{I I':Nat→Nat→Prop}:∀{t:Ty} {x:t.den} {cs:List Value},t.flat=true→aM w I t x cs→aM w' I' t x cs:=by
 intro t;induction t with
 | int k=>intro x cs _ h;exact h
 | bool=>intro x cs _ h;exact h
 | str=>intro x cs _ h;exact h
 | slice e ih=>intro x cs hf;cases hf
 | arr n e ih=>intro x cs hf h;exact⟨h.1,h.2.1,fun i y hy=>ih hf (h.2.2 i y hy)⟩
 | pair a b eH fF =>
   intro x cs hf h;simp only[Ty.flat,bY] at hf;obtain⟨c1,c2,h0,h1,h2⟩:=h;exact⟨c1,c2,h0,eH hf.1 h1,fF hf.2 h2⟩
 | unit=>intro x cs _ h;exact h
 | alt u a r eH ihr =>
   intro x cs hf h;simp only[Ty.flat,bY] at hf;rcases x with y|z
   ·obtain⟨h1,c,h2,h3⟩:=h;exact⟨h1,c,h2,eH hf.1 h3⟩
   ·exact ihr hf.2 (show aM w I r z cs from h)
 | oN=>intro x cs _ h;exact h
def nK(w:World)(I:Nat→Nat→Prop)(e:Ty)(l:List e.den)(v:Value):Prop :=
 (l=[]∧∃base cap,v=.slice base 0 cap∧cap≤maxLen∧j9 base cap) ∨
 ∃blk off cap,v=.slice (some ⟨blk,off,none⟩) l.length cap∧l.length≤cap∧cap≤maxLen ∧
  ∀(i:Nat) (x:e.den),l[i]?=some x→∃es:List Value,es.length=e.size ∧
   (∀(j:Nat) c,es[j]?=some c→w.cell? ⟨blk,off+i*e.size+j,none⟩=some c)∧aM w I e x es
theorem mP{I:Nat→Nat→Prop}{e:Ty}{l:List e.den}{blk:Nat}{cur:Array Value}{tid:TypeId}{fr:Nat×Nat}(hg:w.heap[blk]?=some (.cells cur tid fr)){n:Nat}(hn:n*e.size≤cur.size)
  (h:∀(i:Nat) (x:e.den),l[i]?=some x→aM w I e x ((cur.toList.drop (i*e.size)).take e.size)) (hl:l.length≤n) (lo:Nat) :
  ∀(i:Nat) (x:e.den),(l.drop lo)[i]?=some x→∃es:List Value,es.length=e.size ∧
   (∀(j:Nat) c,es[j]?=some c→w.cell? ⟨blk,lo*e.size+i*e.size+j,none⟩=some c)∧aM w I e x es:=by
 intro i x hx;rw[nk] at hx;have hr:=h _ x hx;have hlt:=(List.getElem?_eq_some_iff.1 hx).1;refine⟨_,hr.length,fun j c hj=>?_,hr⟩;rw[cell_of_heap hg];rw[jw] at hj;split at hj
 ·rw[nk] at hj;rw[←mE];simpa using hj
 ·cases hj
theorem bn.row{b:Nat}{bx:aI}{mem:Nat→Option aI}(h:bn γ mem w b bx){blk cap:Nat}(hl:γ.loc b=some (blk,cap)) :
  (∀(e:Ty) (l:List e.den),bx.buf=true→bx.val=.data (.slice e) l→∃cur tid fr,w.heap[blk]?=some (.cells cur tid fr)∧gu cur fr∧l.length≤cap∧cap≤maxLen∧cur.size=cap*e.size∧0<e.size ∧
   ∀(i:Nat) (x:e.den),l[i]?=some x→aM w γ.I e x ((cur.toList.drop (i*e.size)).take e.size)) ∧
  (∀(n:Nat) (e:Ty) (l:List e.den),bx.buf=false→bx.val=.data (.arr n e) l→∃cur tid fr,w.heap[blk]?=some (.cells cur tid fr)∧gu cur fr∧l.length=n∧cur.size=n*e.size ∧
   ∀(i:Nat) (x:e.den),l[i]?=some x→aM w γ.I e x ((cur.toList.drop (i*e.size)).take e.size)):=by
 refine⟨fun e l hb hv=>?_,fun n e l hb hv=>?_⟩
 ·rw[bn,hb] at h;obtain⟨e',l',h1,h2,h3⟩:=h;rw[hv] at h1;cases h1;rcases h3 with ⟨h3,_⟩|⟨bQ,cap',cur,tid,fr,q1,q2,q3,cQ,q4,q5,q6,q7⟩
  ·rw[hl] at h3;cases h3
  ·rw[hl] at q1;obtain⟨rfl,rfl⟩:=bM (au q1);exact⟨cur,tid,fr,q2,q3.th,q4,q5,q6,h2,q7⟩
 ·rw[bn,hb] at h;obtain⟨bQ,cap',cur,tid,fr,q1,q2,q3,cQ,q4⟩:=h;rw[hl] at q1;obtain⟨rfl,rfl⟩:=bM (au q1);rw[hv] at q4;obtain⟨r1,r2,r3⟩:=q4;exact⟨cur,tid,fr,q2,q3,r1,by simpa using r2,r3⟩
theorem qz{u e:Ty}{l:List u.den}{m:List e.den}(h:toL u e l=some m):∃q:u=e,m=q▸l:=eK h
theorem fP{e:Ty}{v:av}{l:List e.den}(hl:cV e σ v=some l) :
  v=.data (.slice e) l∨(v=.gA∧l=[])∨(∃b ag bx,v=.whole b ag∧σ.mem b=some bx∧bx.ag=ag∧bx.buf=true∧bx.val=.data (.slice e) l) ∨
  ∃b ag lo n bx,v=.part b ag lo n∧σ.mem b=some bx∧bx.ag=ag∧((bx.buf=true∧∃l0:List e.den,bx.val=.data (.slice e) l0∧l=sub l0 lo n)∨(bx.buf=false∧∃(k:Nat) (l0:List e.den),bx.val=.data (.arr k e) l0∧l=sub l0 lo n)):=by
 unfold cV at hl;split at hl
 ·obtain⟨q,rfl⟩:=qz hl;subst q;exact .inl rfl
 ·exact .inr (.inl ⟨rfl,(au hl).symm⟩)
 ·rename_i b ag;split at hl
  ·rename_i bx hb;cases hc:(Nat.beq bx.ag ag&&bx.buf) with
   | false=>rw[hc,ez] at hl;exact absurd hl (by simp)
   | true =>
     rw[hc,bZ] at hl;simp only[bY] at hc;split at hl
     ·rename_i u l0 ga;obtain⟨q,rfl⟩:=qz hl;subst q;exact .inr (.inr (.inl ⟨b,ag,bx,rfl,hb,cB hc.1,hc.2,ga⟩))
     ·exact absurd hl (by simp)
  ·exact absurd hl (by simp)
 ·rename_i b ag lo n;split at hl
  ·rename_i bx hb;cases hc:Nat.beq bx.ag ag with
   | false=>rw[hc,ez] at hl;exact absurd hl (by simp)
   | true =>
     rw[hc,bZ] at hl;split at hl
     ·rename_i u l0 aJ ga;obtain⟨q,rfl⟩:=qz hl;subst q;exact .inr (.inr (.inr ⟨b,ag,lo,n,bx,rfl,hb,cB hc,.inl ⟨aJ,l0,ga,rfl⟩⟩))
     ·rename_i k0 u l0 aJ ga;obtain⟨q,rfl⟩:=qz hl;subst q;exact .inr (.inr (.inr ⟨b,ag,lo,n,bx,rfl,hb,cB hc,.inr ⟨aJ,k0,l0,ga,rfl⟩⟩))
     ·exact absurd hl (by simp)
  ·exact absurd hl (by simp)
 ·exact absurd hl (by simp)
theorem ur{α:Type}{l:List α}{lo n:Int}(h0:0≤lo)(h1:0≤n)(h2:lo+n≤l.length):(sub l lo n).length=n.toNat:=by
 simp only[sub,gb,kL];omega
theorem iR(hm:aG B γ σ.mem w){e:Ty}{v:av}{val:Value}{l:List e.den}(hv:aV γ σ.mem w v .val [val])(hl:cV e σ v=some l):nK w γ.I e l val:=by
 rcases fP hl with rfl|⟨rfl,rfl⟩|⟨b,ag,bx,rfl,hb,aC,aJ,ga⟩|⟨b,ag,lo,n,bx,rfl,hb,aC,Bw⟩
 ·obtain⟨cs,h1,hval⟩:=b5.1 hv;rcases h1 with ⟨⟨base,h1⟩,h2⟩|⟨blk,off,cap,h1,h2,h3,h4⟩
  ·exact .inl ⟨h2,base,0,by rw[hval,h1];rfl,lO _,.inl rfl⟩
  ·refine .inr ⟨blk,off,cap,by rw[hval,h1];rfl,h2,h3,fun i x hx=>?_⟩;obtain⟨es,g1,g2,g3⟩:=h4 i x hx;exact⟨es,g1,fun j c hj=>(g2 j c hj).1,g3⟩
 ·obtain rfl:val=_:=by simpa [aV] using hv
  exact .inl ⟨rfl,none,0,rfl,lO _,.inl rfl⟩
 ·obtain⟨e',n',g1,g2,g3⟩:=aD hb aC hv.2;rw[aI.bD g1 ga] at g2;obtain⟨rfl,rfl⟩:=bM (au g2);rcases g3 with ⟨g3,g4⟩|⟨blk,cap,g3,g4⟩
  ·obtain rfl:val=_:=by simpa using g4
   have ew:=hm.boxes b bx hb;rw[bn,g1] at ew;obtain⟨e2,l2,j1,j2,j3⟩:=ew;rw[ga] at j1;cases j1;rcases j3 with ⟨_,j4⟩|⟨_,_,_,_,_,j3,_⟩
   ·exact .inl ⟨j4,none,0,rfl,lO _,.inl rfl⟩
   ·rw[g3] at j3;exact absurd j3 (by simp)
  ·obtain rfl:val=_:=by simpa using g4
   obtain⟨cur,tid,fr,q1,q2,q3,q4,q5,q6,q7⟩:=((hm.boxes b bx hb).row g3).1 _ l g1 ga;refine .inr ⟨blk,0,cap,rfl,q3,q4,fun i x hx=>?_⟩;have:=mP q1 (n:=cap) (by omega) q7 q3 0 i x hx;rw[zV] at this;exact this
 ·obtain⟨e',k,g2,g3,g4,g5,base,cap,g6,g7,g8,gF,g9⟩:=aD hb aC hv.2;obtain rfl:val=_:=by simpa using g6
  rcases Bw with ⟨aJ,l0,ga,rfl⟩|⟨aJ,k0,l0,ga,rfl⟩
  ·rw[aI.bD aJ ga] at g2;obtain⟨rfl,rfl⟩:=bM (au g2);have hlen:=ur g3 g4 g5;rcases g9 with g9|⟨blk,c,g9,g10⟩
   ·subst g9;exact .inl ⟨by simp[sub],base,cap,rfl,g8,gF.1⟩
   ·obtain⟨cur,tid,fr,q1,q2,q3,q4,q5,q6,q7⟩:=((hm.boxes b bx hb).row g9).1 _ l0 aJ ga;refine .inr ⟨blk,lo.toNat*e.size,cap,by rw[g10,hlen],by rw[hlen];exact g7,g8,fun i x hx=>?_⟩;have hx':((List.drop lo.toNat l0).take n.toNat)[i]?=some x:=hx;rw[jw] at hx';split at hx'
    ·exact mP q1 (n:=c) (by omega) q7 q3 lo.toNat i x hx'
    ·exact absurd hx' (by simp)
  ·rw[aI.ia aJ ga] at g2;obtain⟨rfl,rfl⟩:=bM (au g2);rcases g9 with g9|⟨blk,c,g9,g10⟩
   ·subst g9;exact .inl ⟨by simp[sub],base,cap,rfl,g8,gF.1⟩
   ·obtain⟨cur,tid,fr,q1,q2,q3,q5,q7⟩:=((hm.boxes b bx hb).row g9).2 _ _ l0 aJ ga;have hlen:=ur (l:=l0) g3 g4 (by rw[q3];exact g5);refine .inr ⟨blk,lo.toNat*e.size,cap,by rw[g10,hlen],by rw[hlen];exact g7,g8,fun i x hx=>?_⟩;have hx':((List.drop lo.toNat l0).take n.toNat)[i]?=some x:=hx;rw[jw] at hx';split at hx'
    ·exact mP q1 (n:=k0) (by omega) q7 (by omega) lo.toNat i x hx'
    ·exact absurd hx' (by simp)
theorem u6{I:Nat→Nat→Prop}{e:Ty}{blk:Nat}:∀{l:List e.den} {off:Nat},(∀(i:Nat) (x:e.den),l[i]?=some x→∃es:List Value,es.length=e.size ∧
   (∀(j:Nat) c,es[j]?=some c→w.cell? ⟨blk,off+i*e.size+j,none⟩=some c)∧aM w I e x es) →
  ∃news:List Value,news.length=l.length*e.size∧(∀(j:Nat) c,news[j]?=some c→w.cell? ⟨blk,off+j,none⟩=some c)∧(∀c∈news,c.oneCell'=true) ∧
   ∀(i:Nat) (x:e.den),l[i]?=some x→aM w I e x ((news.drop (i*e.size)).take e.size):=by
 intro l;induction l with
 | nil=>intro off h;exact⟨[],by simp,by simp,by simp,by simp⟩
 | cons x0 r ih =>
   intro off h;obtain⟨es,g1,g2,g3⟩:=h 0 x0 rfl;obtain⟨news,k1,k2,k3,k4⟩:=ih (off:=off+e.size) fun i x hx=>by
    obtain⟨es',a1,a2,a3⟩:=h (i+1) x (by simpa using hx);refine⟨es',a1,fun j c hj=>?_,a3⟩;have:=a2 j c hj;rw[nx] at this;rw[←this];congr 2;omega
   refine⟨es++news,by rw[oL,g1,k1,oM,nx];omega,fun j c hj=>?_,fun c hc=>?_,fun i x hx=>?_⟩
   ·rw[Fw] at hj;split at hj
    ·have:=g2 j c hj;simpa using this
    ·rename_i hlt;have:=k2 _ c hj;rw[←this];congr 2;omega
   ·rcases List.mem_append.1 hc with hc|hc
    ·exact g3.one c hc
    ·exact k3 c hc
   ·cases i with
    | zero =>
      obtain rfl:x0=x:=by simpa using hx
      rw[zV,DU,←g1,DV];exact g3
    | succ i =>
      have hx':r[i]?=some x:=by simpa using hx
      rw[nx,Di,←mD,←g1,pG,g1];exact k4 i x hx'
theorem qA(h:bE B N γ σ a w){b:Nat}{bx:aI}{e:Ty}{n:Nat}(hb:σ.mem b=some bx)(hrow:bx.row=some (e,n))(hf:freeze σ b=some σ') :
  ∃γ',bE B N γ' σ' a w∧Ext B γ σ.mem w γ' σ'.mem w∧γ'.loc=γ.loc∧∀blk k off,γ.loc b=some (blk,k)→off<n*e.size→γ'.I blk off:=by
 obtain⟨m1,m2⟩:=h.ok.freeze hb hrow;have e1:σ'={ slots:=σ.slots,mem:=bu σ.mem b { bx with ro:=true } }:=by
  unfold freeze at hf;rw[hb] at hf;cases hro:bx.ro with
  | true =>
    simp only[hro,bZ,jx] at hf;subst hf;have:bu σ.mem b { bx with ro:=true }=σ.mem:=by
     funext c;by_cases e:c=b
     ·subst e;rw[aH,hb];congr 1;cases bx;simp only at hro;subst hro;rfl
     ·rw[az _ e]
    rw[this]
  | false =>
    simp only[hro,ez] at hf;cases hlk:bx.lk with
    | true=>simp[hlk] at hf
    | false=>simp only[hlk,ez,jx] at hf;subst hf;rfl
 subst e1;exact⟨_,h.go m2 m1,m2,rfl,fun blk k off hl ho=>.inr ⟨⟨k,hl⟩,ho⟩⟩
theorem nK.data{γ':Gh}{e:Ty}{l:List e.den}{val:Value}(h:nK w γ.I e l val)(hI:∀b o,γ.I b o→γ'.I b o)
  (hc:∀blk off cap,val=.slice (some ⟨blk,off,none⟩) l.length cap→∀j,j<l.length*e.size→γ'.I blk (off+j)):aM w γ'.I (.slice e) l [val]:=by
 rcases h with ⟨rfl,base,cap,r1,r2,r3⟩|⟨blk,off,cap,r1,r2,r3,r4⟩
 ·rcases r3 with rfl|⟨blk,off,rfl⟩
  ·exact .inl ⟨⟨base,by rw[r1]⟩,rfl⟩
  ·exact .inr ⟨blk,off,cap,by rw[r1];rfl,lO _,r2,fun i x hx=>by cases hx⟩
 ·refine .inr ⟨blk,off,cap,by rw[r1],r2,r3,fun i x hx=>?_⟩;obtain⟨es,g1,g2,g3⟩:=r4 i x hx;have hi:i<l.length:=(List.getElem?_eq_some_iff.1 hx).1;refine⟨es,g1,fun j c hj=>⟨g2 j c hj,?_⟩,aM.mono hI (fun _ _ _=>rfl) g3⟩;have hj':j<e.size:=by have:=(List.getElem?_eq_some_iff.1 hj).1;omega
  have:(i+1)*e.size≤l.length*e.size:=jf _ hi;rw[nx] at this;rw[rE];exact hc blk off cap r1 _ (by omega)
theorem qB(h:bE B N γ σ a w){e:Ty}{v:av}{val:Value}{l:List e.den}(hv:aV γ σ.mem w v .val [val])(hl:cV e σ v=some l)(hf:dm σ v=some σ') :
  ∃γ',bE B N γ' σ' a w∧Ext B γ σ.mem w γ' σ'.mem w∧aM w γ'.I (.slice e) l [val]:=by
 have hrow:=iR h.ok hv hl;rcases fP hl with rfl|⟨rfl,rfl⟩|⟨b,ag,bx,rfl,hb,aC,aJ,ga⟩|⟨b,ag,lo,n,bx,rfl,hb,aC,Bw⟩
 ·obtain rfl:=au hf;obtain⟨cs,h1,hval⟩:=b5.1 hv;have:cs=[val]:=by
   obtain⟨c,rfl⟩:=List.length_eq_one_iff.1 h1.length;rw[hval];rfl
  exact⟨γ,h,Ext.refl _ _ _ _,by rw[←this];exact h1⟩
 ·obtain rfl:=au hf;obtain rfl:val=_:=by simpa [aV] using hv
  exact⟨γ,h,Ext.refl _ _ _ _,.inl ⟨⟨none,rfl⟩,rfl⟩⟩
 ·obtain⟨γ',s1,s2,s3,s4⟩:=qA h hb (aI.bD aJ ga) hf;refine⟨γ',s1,s2,hrow.data s2.I fun blk off cap hval j hj=>?_⟩;obtain⟨e',n',g1,g2,g3⟩:=aD hb aC hv.2;rcases g3 with ⟨g3,g4⟩|⟨bQ,cap',g3,g4⟩
  ·obtain rfl:val=_:=by simpa using g4
   injection hval with q1 q2 q3
   rw[←q2,zV] at hj;omega
  ·obtain rfl:val=_:=by simpa using g4
   injection hval with q1 q2 q3
   injection q1 with q1
   injection q1 with q1 q4
   subst q1;subst q4;rw[lu];exact s4 bQ cap' j g3 hj
 ·obtain⟨e',k,g2,g3,g4,g5,base,cap,g6,g7,g8,gF,g9⟩:=aD hb aC hv.2;obtain rfl:val=_:=by simpa using g6
  have hlk:e=e'∧l.length=n.toNat:=by
   rcases Bw with ⟨aJ,l0,ga,rfl⟩|⟨aJ,k0,l0,ga,rfl⟩
   ·rw[aI.bD aJ ga] at g2;obtain⟨rfl,rfl⟩:=bM (au g2);exact⟨rfl,ur g3 g4 g5⟩
   ·rw[aI.ia aJ ga] at g2;obtain⟨rfl,rfl⟩:=bM (au g2);rcases g9 with g9|⟨blk,c,g9,g10⟩
    ·subst g9;exact⟨rfl,by simp[sub]⟩
    ·obtain⟨cur,tid,fr,q1,q2,q3,q5,q7⟩:=((h.ok.boxes b bx hb).row g9).2 _ _ l0 aJ ga;exact⟨rfl,ur g3 g4 (by rw[q3];exact g5)⟩
  obtain⟨rfl,hlen⟩:=hlk;obtain⟨γ',s1,s2,s3,s4⟩:=qA h hb g2 hf;refine⟨γ',s1,s2,hrow.data s2.I fun blk off cap' hval j hj=>?_⟩;rcases g9 with g9|⟨bQ,c,g9,g10⟩
  ·rw[hlen,g9] at hj;simp at hj
  ·injection hval with q1 q2 q3
   rw[g10] at q1;injection q1 with q1
   injection q1 with q1 q4
   subst q1;subst q4;refine s4 bQ c _ g9 ?_;have:(lo.toNat+n.toNat)*e.size≤k*e.size:=jf _ (by omega);rw[mE] at this;rw[hlen] at hj;omega
theorem oX{e:Ty}{v:av}{l:List e.den}{b:Nat}(h:cV e σ v=some l)(hf:freeze σ b=some σ'):cV e σ' v=some l:=by
 have hm:∀c bx,σ.mem c=some bx→∃r,σ'.mem c=some { bx with ro:=r }:=by
  intro c bx hc;unfold freeze at hf;split at hf
  ·rename_i bF hb0;cases hro:bF.ro with
   | true=>simp only[hro,bZ,jx] at hf;subst hf;exact⟨bx.ro,hc⟩
   | false =>
     cases hlk:bF.lk with
     | true=>simp[hro,hlk] at hf
     | false =>
       simp only[hro,hlk,ez,jx] at hf;subst hf;by_cases e:c=b
       ·subst e;rw[hb0] at hc;obtain rfl:=au hc;exact⟨true,by simp[St.aW,hlk]⟩
       ·exact⟨bx.ro,by simp[St.aW,dO e,hc]⟩
  ·cases hf
 rcases fP h with rfl|⟨rfl,rfl⟩|⟨c,ag,bx,rfl,hb,aC,aJ,ga⟩|⟨c,ag,lo,n,bx,rfl,hb,aC,Bw⟩
 ·exact h
 ·rfl
 ·obtain⟨r,hr⟩:=hm c bx hb;simp only[cV,hr,aC,aJ,ga,yl,Bool.and_self,bZ];simp[toL,Ty.beq_refl]
 ·obtain⟨r,hr⟩:=hm c bx hb;rcases Bw with ⟨aJ,l0,ga,rfl⟩|⟨aJ,k0,l0,ga,rfl⟩
  ·simp only[cV,hr,aC,aJ,ga,yl,bZ];simp[toL,Ty.beq_refl]
  ·simp only[cV,hr,aC,aJ,ga,yl,bZ];simp[toL,Ty.beq_refl]
theorem qC{s r:Ty}{p q:av}{x:(Ty.pair s r).den}(h:iF σ (.pair s r) (.mix p q)=some x):∃(y:s.den) (z:r.den),iF σ s p=some y∧iF σ r q=some z∧x=(y,z):=by
 replace h:(match iF σ s p,iF σ r q with
  | some x,some y=>some ((x,y):(Ty.pair s r).den)
  | _,_=>none)=some x:=h
 split at h
 ·rename_i y z h1 h2;exact⟨y,z,h1,h2,(au h).symm⟩
 ·exact absurd h (by simp)
theorem xP{s r:Ty}{p q:av}{y:s.den}{z:r.den}(h1:iF σ s p=some y)(h2:iF σ r q=some z):iF σ (.pair s r) (.mix p q)=some ((y,z):(Ty.pair s r).den):=by
 show(match iF σ s p,iF σ r q with
  | some x,some y=>some ((x,y):(Ty.pair s r).den)
  | _,_=>none)=some (y,z)
 rw[h1,h2]
theorem kU{p q:av}(h:dm σ (.mix p q)=some σ'):∃σ1,dm σ p=some σ1∧dm σ1 q=some σ':=by
 unfold dm at h;split at h
 ·rename_i σ1 h1;exact⟨σ1,h1,h⟩
 ·exact absurd h (by simp)
theorem gS{t:Ty}:∀{x:t.den},iF σ t .jg=some x→(∀w I,aM w I t x [.nilIface])∧(∀τ:St,iF τ t .jg=some x)∧bk t [.nilIface]=.nilIface∧t.isAgg=false:=by
 induction t with
 | alt u a r eH ihr =>
   intro x h;have h:(match iF σ r .jg with|some x=>some (Sum.inr x)|none=>none:Option (a.den⊕r.den))=some x:=h;cases hr:iF σ r .jg with
   | none=>rw[hr] at h;cases h
   | some y =>
     rw[hr] at h;obtain rfl:=au h;obtain⟨h1,h2,h3,h4⟩:=ihr hr;refine⟨fun w I=>h1 w I,fun τ=>?_,h3,h4⟩;show(match iF τ r .jg with|some x=>some (Sum.inr x)|none=>none:Option (a.den⊕r.den))=_
     rw[h2 τ];rfl
 | oN=>intro x h;obtain rfl:()=x:=au h;exact⟨fun w I=>rfl,fun τ=>rfl,rfl,rfl⟩
 | slice e=>intro x h;cases h
 | pair a b=>intro x h;cases h
 | _=>intro x h;cases h
theorem An:∀{v:av} {t:Ty} {x:t.den} {σ σ':St} {u:av},iF σ t v=some x→dm σ u=some σ'→iF σ' t v=some x:=by
 have one:∀{u:av} {e:Ty} {v:av} {l:List e.den} {σ σ':St},cV e σ v=some l→dm σ u=some σ'→cV e σ' v=some l:=by
  intro u;induction u with
  | mix p q l8 lG =>
    intro e v l σ σ' h hf;simp only[dm] at hf;cases hp:dm σ p with
    | none=>rw[hp] at hf;cases hf
    | some σ1=>rw[hp] at hf;exact lG (l8 h hp) hf
  | whole b ag=>intro e v l σ σ' h hf;exact oX h hf
  | part b ag lo n=>intro e v l σ σ' h hf;exact oX h hf
  | _=>intro e v l σ σ' h hf;obtain rfl:=au hf;exact h
 intro v;induction v with
 | data u y =>
   intro t x σ σ' u h hf;cases t with
   | slice e=>exact one h hf
   | _=>exact h
 | mix p q l8 lG =>
   intro t x σ σ' u h hf;cases t with
   | pair s r =>
     obtain⟨y,z,h1,h2,rfl⟩:=qC h;exact xP (l8 h1 hf) (lG h2 hf)
   | slice e=>exact one h hf
   | _=>cases h
 | jg=>intro t x σ σ' u h hf;exact(gS h).2.1 _
 | _ =>
   intro t x σ σ' u h hf;cases t with
   | slice e=>exact one h hf
   | _=>cases h
theorem sK{γ:Gh}{mem:Nat→Option aI}{v:av}{cs:List Value}(h:aV γ mem w v .cells cs)(h1:bA v=1):∃c,cs=[c]:=by
 have:=h.length;rw[h1] at this;exact List.length_eq_one_iff.1 this
theorem BW:∀{v:av} {t:Ty} {x:t.den} {cs:List Value} {σ σ':St} {γ:Gh} {a:Act},bE B N γ σ a w→aV γ σ.mem w v .cells cs→iF σ t v=some x→dm σ v=some σ' →
  ∃γ',bE B N γ' σ' a w∧Ext B γ σ.mem w γ' σ'.mem w∧aM w γ'.I t x cs:=by
 have sl:∀{v:av} {e:Ty} {l:List e.den} {cs:List Value} {σ σ':St} {γ:Gh} {a:Act},bA v=1→(∀c,aV γ σ.mem w v .cells [c]→aV γ σ.mem w v .val [c])→bE B N γ σ a w→aV γ σ.mem w v .cells cs→cV e σ v=some l→dm σ v=some σ' →
   ∃γ',bE B N γ' σ' a w∧Ext B γ σ.mem w γ' σ'.mem w∧aM w γ'.I (.slice e) l cs:=by
  intro v e l cs σ σ' γ a h1 hval h hc hl hf;obtain⟨c,rfl⟩:=sK hc h1;exact qB h (hval c hc) hl hf
 intro v;induction v with
 | data u y =>
   intro t x cs σ σ' γ a h hc hl hf;obtain rfl:=au hf;have key:(∃q:u=t,x=q▸y):=by
    cases t with
    | slice e =>
      rcases fP (show cV e σ (.data u y)=some x from hl) with g|⟨g,_⟩|⟨_,_,_,g,_⟩|⟨_,_,_,_,_,g,_⟩
      ·injection g with g1 g2;subst g1;exact⟨rfl,(eq_of_heq g2).symm⟩
      ·cases g
      ·cases g
      ·cases g
    | _=>exact Ty.eY hl
   obtain⟨q,hq⟩:=key;subst q;subst hq;exact⟨γ,h,Ext.refl _ _ _ _,hc⟩
 | mix p q l8 lG =>
   intro t x cs σ σ' γ a h hc hl hf;cases t with
   | pair s r =>
     obtain⟨c1,c2,rfl,h1,h2⟩:=hc;obtain⟨y,z,hp,hq,rfl⟩:=qC hl;obtain⟨σ1,E4,N9⟩:=kU hf;obtain⟨dS,s1,s2,s3⟩:=l8 h h1 hp E4;obtain⟨oY,t1,t2,t3⟩:=lG s1 (h2.ext s2) (An hq E4) N9;exact⟨oY,t1,s2.trans t2,c1,c2,rfl,aM.mono t2.I t2.cells s3,t3⟩
   | slice e=>exact absurd hl (by intro k;cases k)
   | _=>cases hl
 | gA =>
   intro t x cs σ σ' γ a h hc hl hf;cases t with
   | slice e=>exact sl (v:=.gA) rfl (fun c k=>k) h hc hl hf
   | _=>cases hl
 | whole b ag =>
   intro t x cs σ σ' γ a h hc hl hf;cases t with
   | slice e=>exact sl (v:=.whole b ag) rfl (fun c k=>k) h hc hl hf
   | _=>cases hl
 | part b ag lo n =>
   intro t x cs σ σ' γ a h hc hl hf;cases t with
   | slice e=>exact sl (v:=.part b ag lo n) rfl (fun c k=>k) h hc hl hf
   | _=>cases hl
 | jg =>
   intro t x cs σ σ' γ a h hc hl hf;obtain rfl:=au hf;obtain rfl:cs=[.nilIface]:=hc;exact⟨γ,h,Ext.refl ..,(gS hl).1 _ _⟩
 | _ =>
   intro t x cs σ σ' γ a h hc hl hf;cases t with
   | slice e=>exact absurd hl (by intro k;cases k)
   | _=>cases hl
theorem fQ{t:Ty}{x:t.den}{v:av}{val:Value}(h:bE B N γ σ a w)(hv:aV γ σ.mem w v .val [val])(hg:lR σ t v=some (x,σ')) :
  ∃γ',bE B N γ' σ' a w∧Ext B γ σ.mem w γ' σ'.mem w∧aV γ' σ'.mem w (.data t x) .val [val]:=by
 unfold lR at hg;split at hg
 ·rename_i u y;split at hg
  ·rename_i y2 hy;obtain⟨rfl,rfl⟩:=bM (au hg);obtain⟨q,hq⟩:=Ty.eY hy;subst q;subst hq;exact⟨γ,h,Ext.refl _ _ _ _,hv⟩
  ·cases hg
 ·split at hg
  ·rename_i y σ1 hl hf;obtain⟨rfl,rfl⟩:=bM (au hg);cases v with
   | data u y'=>rename_i hne;exact absurd rfl (hne u y')
   | mix p q =>
     obtain⟨c1,c2,e1,h1,h2⟩:=hv;obtain rfl:val=_:=by simpa using e1
     obtain⟨γ',s1,s2,s3⟩:=BW h (show aV γ σ.mem w (.mix p q) .cells (c1++c2) from⟨c1,c2,rfl,h1,h2⟩) hl hf;refine⟨γ',s1,s2,_,s3,?_⟩;cases t with
     | pair s r=>rfl
     | slice e=>exact absurd hl (by intro k;cases k)
     | _=>cases hl
   | gA =>
     cases t with
     | slice e=>obtain⟨γ',s1,s2,s3⟩:=qB h hv hl hf;exact⟨γ',s1,s2,_,s3,rfl⟩
     | _=>cases hl
   | whole b ag =>
     cases t with
     | slice e=>obtain⟨γ',s1,s2,s3⟩:=qB h hv hl hf;exact⟨γ',s1,s2,_,s3,rfl⟩
     | _=>cases hl
   | part b ag lo n =>
     cases t with
     | slice e=>obtain⟨γ',s1,s2,s3⟩:=qB h hv hl hf;exact⟨γ',s1,s2,_,s3,rfl⟩
     | _=>cases hl
   | jg =>
     obtain rfl:=au hf;obtain hv:[val]=[Value.nilIface]:=hv;obtain rfl:val=.nilIface:=by simpa using hv
     exact⟨γ,h,Ext.refl ..,[.nilIface],(gS hl).1 _ _,by rw[(gS hl).2.2.1]⟩
   | _ =>
     cases t with
     | slice e=>exact absurd hl (by intro k;cases k)
     | _=>cases hl
  ·cases hg
end
end Go.Ge
