/- A ghost interpreter of the model's code, and that it tells the truth: part 3. It says of a function of plain data what a call of it comes to. -/
import Derived.Test.YtbaijbjhkmoidaaGreatDoorGeB
set_option linter.unusedVariables false
set_option linter.unusedSimpArgs false
set_option linter.unusedSectionVars false
namespace Go.Ge
open RowKit
section
variable {P:Program} {B:ld} {N:Nat} {γ:Gh} {σ σ':St} {a:Act} {w:World} {d:Option Nat} {cx:Ctx}
theorem zF(b c:Bool){xt:TypeId}{x y:Operand}(ht:P.underlying xt=some .bool) :
  (eV .eql xt x y (.bool b) (.bool c)).run P w=.ok (.bool (F2 b c)) w∧(eV .neq xt x y (.bool b) (.bool c)).run P w=.ok (.bool (nt (F2 b c))) w:=by
 have e:=run_equalIn_bool' (P:=P) w 9999 xt b c ht;constructor<;>simp only[eV,eqGuard_at_bool,binOp,Op.equal,Op.maxDepth,Sem.run_bind,Sem.run_pure,Result.andThen_ok,e]<;>rfl
theorem Eu{xt e:TypeId}(ht:P.underlying xt=some (.pointer e))(a b:Option Addr)(h:a=none∨b=none)(n:Nat) :
  (Op.equalIn (n+1) xt (.pointer a) (.pointer b)).run P w=.ok (a.isNone&&b.isNone) w:=by
 cases a with
 | none=>cases b<;>simp only[Op.equalIn,Sem.run_bind,run_underlying ht,Result.andThen_ok]<;>rfl
 | some a=>cases b with
   | none=>simp only[Op.equalIn,Sem.run_bind,run_underlying ht,Result.andThen_ok];rfl
   | some b=>simp at h
theorem pe{xt e:TypeId}{x y:Operand}(ht:P.underlying xt=some (.pointer e))(a b:Option Addr)(h:a=none∨b=none) :
  (eV .eql xt x y (.pointer a) (.pointer b)).run P w=.ok (.bool (a.isNone&&b.isNone)) w∧(eV .neq xt x y (.pointer a) (.pointer b)).run P w=.ok (.bool (!(a.isNone&&b.isNone))) w:=by
 have e:=Eu (P:=P) (w:=w) ht a b h 9999;constructor<;>simp only[eV,eqGuard_at_pointer,binOp,Op.equal,Op.maxDepth,Sem.run_bind,Sem.run_pure,Result.andThen_ok,e]
theorem I5(hc:eo P cx){op:BinOp}{xt:TypeId}{x y:Operand}{u v:Value}{p q r:ay}(hu:bH γ σ.mem w p .val [u])(hv:bH γ σ.mem w q .val [v])
  (hr:(bin (find cx.T xt) (b6 cx.en xt) op p q).run=some r):∃z,(eV op xt x y u v).run P w=.ok z w∧bH γ σ.mem w r .val [z]:=by
 unfold bin at hr;split at hr
 ·
  obtain⟨rfl,h1⟩:=mK hu;obtain⟨rfl,h2⟩:=mK hv;split at hr
  ·rename_i left hs;have hr2:=eI hr;rename_i k n k' m _;cases hz:fE m 0
   ·rw[hz] at hr2;obtain rfl:=ax hr2;exact Es h1 hs hz
   ·rw[hz] at hr2;cases hr2
  ·rename_i hs;obtain⟨hb,hr2⟩:=aq hr;rename_i k n k' m _;have hk:=pN hb;subst hk;exact CX h1 hs hr2
 ·
  obtain⟨rfl,h1⟩:=o9 hu;obtain⟨rfl,h2⟩:=o9 hv;exact CY hr
 ·
  rename_i b c;obtain rfl:=qz hu;obtain rfl:=qz hv;obtain⟨hb,hr2⟩:=aq hr;have ht:=hc.T _ _ (fN hb);have e:=zF (P:=P) (w:=w) b c (x:=x) (y:=y) ht.bool;split at hr2
  ·rename_i he;obtain rfl:=ax hr2;rcases lf he with ⟨rfl,_⟩|⟨_,h⟩
   ·exact⟨.bool (F2 b c),e.1,eM _⟩
   ·cases h
  ·rename_i he;obtain rfl:=ax hr2;rcases lf he with ⟨_,h⟩|⟨rfl,_⟩
   ·cases h
   ·exact⟨.bool (nt (F2 b c)),e.2,eM _⟩
  ·cases hr2
 ·
  rename_i ta tb x1 t2 y1;obtain⟨hb,hr2⟩:=aq hr;simp only[cP] at hb;have ht:=hc.T _ _ (fN hb.1);split at hr2
  ·rename_i y2 e A4 he;obtain⟨e1,e2⟩:=Ty.gL A4;subst e1;subst e2;split at hr2
   ·rename_i c hce;obtain rfl:=ax hr2;obtain⟨I6,k1,rfl⟩:=cC.1 hu;obtain⟨Kd,k2,rfl⟩:=cC.1 hv;have hq:=(tE (P:=P) (γ:=γ) (w:=w) (.pair ta tb)).1 10000 xt x1 _ I6 Kd c ht k1 k2 hce (by have:=ya hb.2;omega);obtain⟨fs,j1,j2,j3,j4⟩:=ht.pair;have hg:∀op,(eqGuard op xt x y (.agg I6.toArray) (.agg Kd.toArray)).run P w=.ok () w:=fun op=>run_eqGuard_agg w op xt x y _ _ j3;rcases lf he with ⟨rfl,rfl⟩|⟨rfl,rfl⟩
    ·refine⟨.bool c,?_,eM _⟩;show(eV .eql xt x y (.agg _) (.agg _)).run P w=_
     simp only[eV,Sem.run_bind,hg,Result.andThen_ok];have K8:(Op.equalIn 10000 xt (.agg I6.toArray) (.agg Kd.toArray)).run P w=.ok c w:=hq;rw[run_eql_struct,K8];rfl
    ·refine⟨.bool (nt c),?_,eM _⟩;show(eV .neq xt x y (.agg _) (.agg _)).run P w=_
     simp only[eV,Sem.run_bind,hg,Result.andThen_ok];have K8:(Op.equalIn 10000 xt (.agg I6.toArray) (.agg Kd.toArray)).run P w=.ok c w:=hq;rw[run_neq_struct,K8];rfl
   ·cases hr2
  ·cases hr2
 ·
  rename_i nn ee x1 t2 y1;obtain⟨hb,hr2⟩:=aq hr;simp only[cP] at hb;have ht:=hc.T _ _ (fN hb.1);split at hr2
  ·rename_i y2 e A4 he;obtain⟨e1,e2⟩:=Ty.gL A4;subst e1;subst e2;split at hr2
   ·rename_i c hce;obtain rfl:=ax hr2;obtain⟨I6,k1,rfl⟩:=cC.1 hu;obtain⟨Kd,k2,rfl⟩:=cC.1 hv;have hq:=(tE (P:=P) (γ:=γ) (w:=w) (.arr nn ee)).1 10000 xt x1 _ I6 Kd c ht k1 k2 hce (by have:=ya hb.2;omega);have j3:=ht.Qy;have hg:∀op,(eqGuard op xt x y (.agg I6.toArray) (.agg Kd.toArray)).run P w=.ok () w:=fun op=>run_eqGuard_agg w op xt x y _ _ j3;rcases lf he with ⟨rfl,rfl⟩|⟨rfl,rfl⟩
    ·refine⟨.bool c,?_,eM _⟩;show(eV .eql xt x y (.agg _) (.agg _)).run P w=_
     simp only[eV,Sem.run_bind,hg,Result.andThen_ok];have K8:(Op.equalIn 10000 xt (.agg I6.toArray) (.agg Kd.toArray)).run P w=.ok c w:=hq;rw[run_eql_struct,K8];rfl
    ·refine⟨.bool (nt c),?_,eM _⟩;show(eV .neq xt x y (.agg _) (.agg _)).run P w=_
     simp only[eV,Sem.run_bind,hg,Result.andThen_ok];have K8:(Op.equalIn 10000 xt (.agg I6.toArray) (.agg Kd.toArray)).run P w=.ok c w:=hq;rw[run_neq_struct,K8];rfl
   ·cases hr2
  ·cases hr2
 ·
  obtain rfl:u=_:=by simpa [bH] using hu
  obtain rfl:v=_:=by simpa [bH] using hv
  split at hr
  ·rename_i e hp he;obtain rfl:=ax hr;obtain⟨el,QB⟩:=hc.en _ hp;have q:=pe (P:=P) (w:=w) (x:=x) (y:=y) QB none none (.inl rfl);rcases lf he with ⟨rfl,rfl⟩|⟨rfl,rfl⟩
   ·exact⟨_,q.1,eM _⟩
   ·exact⟨_,q.2,eM _⟩
  ·cases hr
 ·cases hr
theorem gD{b aj:Nat}(h:live σ b aj=true):∃bx,σ.mem b=some bx∧bx.aj=aj:=by
 unfold live at h;split at h
 ·rename_i bx hb;exact⟨bx,hb,dz h⟩
 ·cases h
theorem aJ{mem:Nat→Option aY}{b aj:Nat}{bx:aY}(hb:mem b=some bx)(hv:bx.aj=aj){K:aY→Prop}(h:iH mem b aj K):K bx:=by
 obtain⟨fM,h1,h2,h3⟩:=h;rw[hb] at h1;obtain rfl:=ax h1;exact h3 hv
theorem Gd(hc:eo P cx){op:BinOp}{xt:TypeId}{x y:Operand}{u v:Value}{p q r:ay}(hu:bH γ σ.mem w p .val [u])(hv:bH γ σ.mem w q .val [v])
  (hr:(KU σ (find cx.T xt) (b6 cx.en xt) op p q).run=some r):∃z,(eV op xt x y u v).run P w=.ok z w∧bH γ σ.mem w r .val [z]:=by
 unfold KU at hr;split at hr
 ·rename_i b aj p;obtain⟨hb,hr2⟩:=aq hr;simp only[cP] at hb;obtain⟨bx,jW,aI⟩:=gD hb.1;obtain⟨blk,cap,_,hval⟩:=aJ jW aI hu.2;obtain rfl:u=_:=by simpa using hval
  obtain rfl:v=_:=by simpa [bH] using hv
  obtain⟨el,QB⟩:=hc.en _ hb.2;have q:=pe (P:=P) (w:=w) (x:=x) (y:=y) QB (some ⟨blk,bR p,none⟩) none (.inr rfl);split at hr2
  ·rename_i e he;obtain rfl:=ax hr2;rcases lf he with ⟨rfl,rfl⟩|⟨rfl,rfl⟩
   ·exact⟨_,q.1,eM _⟩
   ·exact⟨_,q.2,eM _⟩
  ·cases hr2
 ·rename_i b aj p;obtain⟨hb,hr2⟩:=aq hr;simp only[cP] at hb;obtain⟨bx,jW,aI⟩:=gD hb.1;obtain⟨blk,cap,_,hval⟩:=aJ jW aI hv.2;obtain rfl:v=_:=by simpa using hval
  obtain rfl:u=_:=by simpa [bH] using hu
  obtain⟨el,QB⟩:=hc.en _ hb.2;have q:=pe (P:=P) (w:=w) (x:=x) (y:=y) QB none (some ⟨blk,bR p,none⟩) (.inl rfl);split at hr2
  ·rename_i e he;obtain rfl:=ax hr2;rcases lf he with ⟨rfl,rfl⟩|⟨rfl,rfl⟩
   ·exact⟨_,q.1,eM _⟩
   ·exact⟨_,q.2,eM _⟩
  ·cases hr2
 ·exact I5 hc hu hv hr
theorem K9{op:UnOp}{u:Value}{p r:ay}(hu:bH γ σ.mem w p .val [u])(hr:(un op p).run=some r):∃z,(Op.unary op u).run P w=.ok z w∧bH γ σ.mem w r .val [z]:=by
 unfold un at hr;split at hr
 ·obtain rfl:=qz hu;obtain rfl:=ax hr;exact⟨_,rfl,eM _⟩
 ·obtain⟨rfl,h1⟩:=mK hu;obtain rfl:=ax hr;exact⟨_,rfl,mkInt (dQ _ _)⟩
 ·obtain⟨rfl,h1⟩:=mK hu;obtain rfl:=ax hr;rename_i k n;refine⟨_,?_,mkInt (dQ _ _)⟩;cases hk:k.signed<;>simp[Op.unary,Op.intBits,ew,hk]
 ·cases hr
theorem La(hm:aV B γ σ.mem w){b:Nat}{bx:aY}(hb:σ.mem b=some bx){blk cap:Nat}(hl:γ.loc b=some (blk,cap)){p:List uh}{v:ay}(hn:(IV bx.buf p bx.val).run=some v) :
  ∃cur tid fr,w.heap[blk]?=some (.cells cur tid fr)∧jm cur fr∧bR p+bY v≤cur.size∧bH γ σ.mem w v .cells ((cur.toList.drop (bR p)).take (bY v)):=by
 have gi:=hm.boxes b bx hb;unfold bQ at gi;unfold IV at hn;cases aW:bx.buf with
 | false =>
   rw[aW] at gi hn;obtain⟨cB,cap',cur,tid,fr,h1,h2,h3,ez,h4⟩:=gi;rw[hl] at h1;obtain⟨rfl,rfl⟩:=cr (ax h1);obtain⟨k1,k2⟩:=oC h4 hn;exact⟨cur,tid,fr,h2,h3,by simpa using k1,k2⟩
 | true =>
   rw[aW] at gi hn;obtain⟨e,l,h1,h2,h3⟩:=gi;rw[h1] at hn;rcases h3 with ⟨h3,_⟩|⟨cB,cap',cur,tid,fr,h3,h4,h5,ez,h6,h7,h8,h9⟩
   ·rw[hl] at h3;cases h3
   ·rw[hl] at h3;obtain⟨rfl,rfl⟩:=cr (ax h3);cases p with
    | nil=>cases hn
    | cons s p =>
      cases s with
      | CM k off=>cases hn
      | idx i size =>
        obtain⟨hsb,hn2⟩:=aq hn;have hsz:=dz hsb;obtain⟨x,hx,Nj⟩:=bE hn2;obtain⟨h0,hx2⟩:=lX hx;have hr:=h9 _ x hx2;have hrl:=hr.length;have hi:i.toNat<l.length:=(List.getElem?_eq_some_iff.1 hx2).1;have hm2:(i.toNat+1)*e.size≤cap*e.size:=lT _ (by omega);rw[rF] at hm2;obtain⟨k1,k2⟩:=oC (v:=.data e x) (show bH γ σ.mem w (.data e x) .cells _ from hr) Nj;rw[hrl] at k1;refine⟨cur,tid,fr,h4,h5.th,?_,?_⟩
        ·simp only[bR,hsz];omega
        ·rw[HP,Ed,qm,wz (by omega)] at k2;simp only[bR,hsz];exact k2
theorem pX{t:Ty}{tid:TypeId}(ht:Den P t tid){blk off:Nat}{x:t.den}{cs:List Value}(rR:bt w γ.I t x cs)(QC:(loadCells ⟨blk,off,none⟩ cs.length).run P w=.ok cs.toArray w)
  (hcell:∀(j:Nat) v,cs[j]?=some v→w.cell? ⟨blk,off+j,none⟩=some v):(loadVar tid ⟨blk,off,none⟩).run P w=.ok (bO t cs) w:=by
 unfold loadVar;rw[Sem.run_bind,ht.agg w,Result.andThen_ok];have hl:=rR.length;cases hag:t.isAgg with
 | true =>
   simp only[jr,Sem.run_bind,ht.sizeOf w,Result.andThen_ok,←hl,QC,Sem.run_pure,bO,hag,jk]
 | false =>
   have hs:=lY hag;rw[hs] at hl;obtain⟨c,rfl⟩:=List.length_eq_one_iff.1 hl;have:=hcell 0 c rfl;simp only[uf] at this;simp[bO,hag,this]
theorem zG:∀{u:Ty} {v:ay},Ei u v=true→bY v=u.size:=by
 intro u;induction u with
 | pair a b gy iu =>
   intro v h;cases v with
   | data t x=>obtain rfl:=Ty.eq_of_beq (show Ty.beq t (.pair a b)=true from h);rfl
   | mix p q =>
     obtain⟨h1,h2⟩:=Bool.and_eq_true_iff.1 (show(IW a p&&Ei b q)=true from h);have e1:bY p=a.size:=by
      unfold IW at h1;split at h1
      ·rfl
      ·rename_i t u x _;obtain rfl:=Ty.eq_of_beq h1;rfl
      ·cases h1
     show bY p+bY q=a.size+b.size
     rw[e1,iu h2]
   | _=>cases h
 | _ =>
   intro v h;cases v with
   | data t x=>obtain rfl:=Ty.eq_of_beq h;rfl
   | _=>cases h
theorem I7{u:Ty}{v:ay}(h1:IW u v=true):bY v=u.size:=by
 unfold IW at h1;split at h1
 ·rfl
 ·rename_i t u x _;obtain rfl:=Ty.eq_of_beq h1;rfl
 ·cases h1
theorem Ev(hc:eo P cx){ty:TypeId}{x:Operand}(h:bZ B N γ σ a w)(hr:(gR cx d ty (bN σ x) σ).run=some σ') :
  ∃u val ad,σ'=σ.aD d u∧a.eval x=.pointer (some ad)∧(loadVar ty ad).run P w=.ok val w∧bH γ σ.mem w u .val [val]:=by
 have hv:=h.bN x;unfold gR at hr;split at hr
 ·rename_i u y hx;rw[hx] at hv;obtain⟨hb,hr2⟩:=aq hr;obtain rfl:=ax hr2;have ht:=hc.T _ _ (fN hb);obtain⟨blk,off,cs,h1,h2,h3⟩:=hv;obtain h1:a.eval x=_:=by simpa using h1
  have hl:=pX (P:=P) ht h2 (wM h3) (fun j v hj=>(h3 j v hj).1);exact⟨_,_,_,rfl,h1,hl,cs,h2,rfl⟩
 ·rename_i b aj p hx;rw[hx] at hv;split at hr
  ·rename_i bx hb;obtain⟨aI,hr2⟩:=aq hr;have aI:=dz aI;obtain⟨v,hn,fQ⟩:=bind_some hr2;obtain⟨D3,iY⟩:=aq fQ;obtain rfl:=ax iY;obtain⟨blk,cap,hl,hval⟩:=aJ hb aI hv.2;obtain hval:a.eval x=_:=by simpa using hval
   obtain⟨cur,tid,fr,g1,g2,g3,g4⟩:=La h.ok hb hl hn;have RX:=tf (P:=P) g1 g3;have RY:=g4.length;have hcells:∀(j:Nat) v',((cur.toList.drop (bR p)).take (bY v))[j]?=some v'→w.cell? ⟨blk,bR p+j,none⟩=some v':=fun j v' hj=>by
    rw[cell_of_heap g1];rw[lU] at hj;split at hj
    ·rw[rz] at hj;simpa using hj
    ·cases hj
   have single:∀(hone:(isAgg ty).run P w=.ok false w) (h1:bY v=1) (xE:∀c,bH γ σ.mem w v .cells [c]→bH γ σ.mem w v .val [c]),
     ∃u val ad,σ.aD d v=σ.aD d u∧a.eval x=.pointer (some ad)∧(loadVar ty ad).run P w=.ok val w∧bH γ σ.mem w u .val [val]:=by
    intro hone h1 xE;rw[h1] at RY g4 hcells;obtain⟨c,Ke⟩:=List.length_eq_one_iff.1 RY;rw[Ke] at g4 hcells;have:=hcells 0 c rfl;simp only[uf] at this;refine⟨_,c,_,rfl,hval,?_,xE c g4⟩;simp[loadVar,hone,this]
   cases v with
   | mix p' q' =>
     rw[show o6 cx ty (.mix p' q')=false from rfl,IP] at D3;simp only[qp] at D3;split at D3
     ·rename_i u hT;have ht:=hc.T _ _ hT;have T7:=zG D3;have hag:Ty.isAgg u=true:=by
       cases u with
       | pair a b=>rfl
       | _=>cases D3
      refine⟨_,.agg ((cur.toList.drop (bR p)).take (bY (.mix p' q'))).toArray,_,rfl,hval,?_,?_⟩
      ·rw[T7] at RX⊢;simp only[loadVar,Sem.run_bind,ht.agg w,hag,Result.andThen_ok,jr,ht.sizeOf w,RX,Sem.run_pure]
      ·obtain⟨c1,c2,e1,e2,e3⟩:=g4;exact⟨c1,c2,by rw[e1],e2,e3⟩
     ·cases D3
   | data u y =>
     rw[show qp cx ty (.data u y)=false from rfl,KM] at D3;have ht:=hc.T _ _ (fN D3);have FP:=pX (P:=P) ht g4 (by rw[RY];exact RX) hcells;exact⟨_,_,_,rfl,hval,FP,_,g4,rfl⟩
   | whole b' Ew =>
     rw[show qp cx ty (.whole b' Ew)=false from rfl,KM] at D3;simp only[o6] at D3;split at D3
     ·rename_i e hT;exact single (by have:=(hc.T _ _ hT).agg w;exact this) rfl (fun c k=>k)
     ·cases D3
   | ptr b' Ew p'=>exact single ((hc.lW _ (by simpa [qp,o6] using D3)).1 w) rfl (fun c k=>k)
   | kW=>exact single ((hc.lW _ (by simpa [qp,o6] using D3)).1 w) rfl (fun c k=>k)
   | fn f caps=>exact single ((hc.lW _ (by simpa [qp,o6] using D3)).1 w) rfl (fun c k=>k)
   | _=>cases D3
  ·cases hr
 ·cases hr
theorem zH(hc:eo P cx){ty:TypeId}{x:Operand}(h:bZ B N γ σ a w)(hd:∀k,d=some k→k<N)(hr:(gR cx d ty (bN σ x) σ).run=some σ') :
  jn P B N γ σ a w d (Instr.loadAt ty (a.eval x)) σ':=by
 obtain⟨u,val,ad,rfl,h1,h2,h3⟩:=Ev hc h hr;refine bk h hd ?_ h3;rw[h1];simp only[Instr.loadAt,Instr.sureAddr,Sem.run_bind,Sem.run_pure,Result.andThen_ok,h2]
end
end Go.Ge
namespace Go.Ge
open RowKit
section
variable {P:Program} {B:ld} {N:Nat} {γ:Gh} {σ σ':St} {a:Act} {w:World} {d:Option Nat} {cx:Ctx}
theorem xF{s:TypeId}{fs:Array Field}{k:Nat}{f:Field}{u:Ty}(hs:P.underlying s=some (.struct fs))(hf:fs.toList[k]?=some f)(hu:Den P u f.type)(h0:0<u.size)(blk off:Nat) :
  (Instr.fieldAt s (.pointer (some ⟨blk,off,none⟩)) k).run P w=.ok (.pointer (some ⟨blk,off+f.offset,none⟩)) w:=by
 have hf':fs[k]?=some f:=by simpa using hf
 have hz:¬(u.size=0):=by omega
 simp only[Instr.fieldAt,Sem.run_bind,run_underlying hs,Result.andThen_ok,hf',Instr.sureAddr,Sem.run_pure,fieldPlace,hu.sizeOf w,cT hz,addr_add]
theorem CZ{s:TypeId}{fs:Array Field}{k:Nat}{f:Field}{i:TypeInfo}(hs:P.underlying s=some (.struct fs))(hf:fs.toList[k]?=some f)(hi:P.info? f.type=some i)(h0:0<i.size)(blk off:Nat) :
  (Instr.fieldAt s (.pointer (some ⟨blk,off,none⟩)) k).run P w=.ok (.pointer (some ⟨blk,off+f.offset,none⟩)) w:=by
 have hf':fs[k]?=some f:=by simpa using hf
 have hz:¬(i.size=0):=by omega
 have hsz:(Go.sizeOf f.type).run P w=.ok i.size w:=by simp[Go.sizeOf,typeInfo,hi]
 simp only[Instr.fieldAt,Sem.run_bind,run_underlying hs,Result.andThen_ok,hf',Instr.sureAddr,Sem.run_pure,fieldPlace,hsz,cT hz,addr_add]
theorem ur{t:Ty}{s:TypeId}(ht:Den P t s){k:Nat}{u:Ty}{o:Nat}(hu:nI t k=some u)(ho:gk t k=some o) :
  ∃(fs:Array Field) (f:Field),P.underlying s=some (.struct fs)∧fs.toList[k]?=some f∧f.offset=o∧Den P u f.type∧0<u.size:=by
 cases t with
 | pair a b =>
   obtain⟨fs,h1,h2,_⟩:=ht.pair;obtain⟨f,k1,k2,k3,k4⟩:=h2.at hu ho;exact⟨fs,f,h1,k1,by omega,k3,k4⟩
 | _=>cases k<;>cases hu
theorem tg(hc:eo P cx){s:TypeId}{x:Operand}{k:Nat}(h:bZ B N γ σ a w)(hd:∀k,d=some k→k<N)(hr:(dw cx d s (bN σ x) k σ).run=some σ') :
  jn P B N γ σ a w d (Instr.fieldAt s (a.eval x) k) σ':=by
 have hv:=h.bN x;unfold dw at hr;split at hr
 ·rename_i u y hx;rw[hx] at hv;obtain⟨hb,hr2⟩:=aq hr;have ht:=hc.T _ _ (fN hb);split at hr2
  ·rename_i o t z hf;obtain rfl:=ax hr2;obtain⟨blk,off,cs,h1,h2,h3⟩:=hv;obtain h1:a.eval x=_:=by simpa using h1
   obtain⟨t',z',e1,e2,e3,e4,e5⟩:=uq (w:=w) h2 (show jF u y k=some (o,.data t z) from hf);cases e1;obtain⟨fs,f,g1,g2,g3,g4,g5⟩:=ur ht e2 e3;refine bk h hd (by rw[h1];exact xF g1 g2 g4 g5 blk off) ⟨blk,off+f.offset,(cs.drop o).take t.size,rfl,e5,fun j v hj=>?_⟩;rw[lU] at hj;split at hj
   ·rw[rz] at hj;have:=h3 _ v hj;rw[g3,wB];exact this
   ·cases hj
  ·cases hr2
 ·rename_i b aj p hx;rw[hx] at hv;obtain⟨hb,hr2⟩:=aq hr;obtain⟨bx,jW,aI⟩:=gD hb;split at hr2
  ·rename_i t hT;split at hr2
   ·rename_i off u ho hu;obtain rfl:=ax hr2;obtain⟨blk,cap,hl,hval⟩:=aJ jW aI hv.2;obtain hval:a.eval x=_:=by simpa using hval
    obtain⟨fs,f,g1,g2,g3,g4,g5⟩:=ur (hc.T _ _ hT) hu ho;refine bk h hd (by rw[hval];exact xF g1 g2 g4 g5 blk (bR p)) ⟨⟨_,rfl,rfl⟩,bx,jW,by omega,fun _=>⟨blk,cap,hl,?_⟩⟩;rw[rO,g3];simp[bR]
   ·cases hr2
  ·split at hr2
   ·rename_i fs hO;split at hr2
    ·rename_i off ho;obtain rfl:=ax hr2;obtain⟨blk,cap,hl,hval⟩:=aJ jW aI hv.2;obtain hval:a.eval x=_:=by simpa using hval
     obtain⟨gs,f,i,g1,g2,g3,g4,g5⟩:=Ni (hc.mU _ _ hO) ho;refine bk h hd (by rw[hval];exact CZ g1 g2 g4 g5 blk (bR p)) ⟨⟨_,rfl,rfl⟩,bx,jW,by omega,fun _=>⟨blk,cap,hl,?_⟩⟩;rw[rO,g3];simp[bR]
    ·cases hr2
   ·cases hr2
 ·cases hr
theorem Ex(hc:eo P cx){xt:TypeId}{k o:Nat}{u:Ty}{y:u.den}{v:ay}{val:Value}(hu:find cx.T xt=some u)(hv:bH γ σ.mem w (.data u y) .val [val])(hf:iF (.data u y) k=some (o,v)) :
  ∃z,(Instr.field xt val k).run P w=.ok z w∧bH γ σ.mem w v .val [z]:=by
 have ht:=hc.T _ _ hu;obtain⟨cs,h1,rfl⟩:=cC.1 hv;obtain⟨t',z',rfl,e2,e3,e4,e5⟩:=uq (w:=w) h1 hf;obtain⟨fs,f,g1,g2,g3,g4,g5⟩:=ur ht e2 e3;have RZ:u.isAgg=true:=by cases u<;>first|rfl|(cases k<;>cases e2)
 refine⟨bO t' ((cs.drop o).take t'.size),?_,⟨_,e5,rfl⟩⟩;have hf':fs[k]?=some f:=by simpa using g2
 have hp:=sO (P:=P) (w:=w) g4 (cs:=cs.toArray) (off:=f.offset) (by rw[g3];simpa using e4) lY;simp only[bO,RZ,jk,Instr.field,Sem.run_bind,run_underlying g1,Result.andThen_ok,hf',asAgg,Sem.run_pure,hp];rw[g3]
theorem iI{t cq:TypeId}{sz:Nat}(ht:P.underlying t=some (.slice cq))(hs:(Go.sizeOf cq).run P w=.ok sz w)(blk off len cap:Nat)(k:IntKind){i:Int}(h0:0≤i)(h1:i<len) :
  (Instr.indexAt t (.slice (some ⟨blk,off,none⟩) len cap) (.int k i)).run P w=.ok (.pointer (some ⟨blk,off+i.toNat*sz,none⟩)) w:=by
 simp only[Instr.indexAt,asIntOf,Sem.run_bind,Sem.run_pure,Result.andThen_ok,run_underlying ht,zg,h0,h1,jr,hs,addr_add]
theorem qZ{t cq:TypeId}{sz n:Nat}(ht:P.underlying t=some (.array n cq))(hs:(Go.sizeOf cq).run P w=.ok sz w)(blk off:Nat)(k:IntKind){i:Int}(h0:0≤i)(h1:i<n) :
  (Instr.indexAt t (.pointer (some ⟨blk,off,none⟩)) (.int k i)).run P w=.ok (.pointer (some ⟨blk,off+i.toNat*sz,none⟩)) w:=by
 simp only[Instr.indexAt,asIntOf,Sem.run_bind,Sem.run_pure,Result.andThen_ok,run_underlying ht,Instr.sureAddr,zg,h0,h1,jr,hs,addr_add]
theorem rS{i n:Int}(h:within i n=true):0≤i∧i<n:=by
 simp only[within,cP,A8] at h;exact h
theorem iJ{i j n:Int}(h:inside i j n=true):0≤i∧i≤j∧j≤n:=by
 simp only[inside,cP,A8] at h;exact⟨h.1.1,h.1.2,h.2⟩
theorem vh{b aj:Nat}{e:Ty}{n:Int}(h:qq σ b aj=some (e,n)):∃(bx:aY) (k:Nat),σ.mem b=some bx∧bx.aj=aj∧bx.row=some (e,k)∧n=k:=by
 unfold qq at h;split at h
 ·rename_i bx hb;cases aI:Nat.beq bx.aj aj with
  | false=>rw[aI] at h;cases h
  | true =>
    rw[aI] at h;simp only[jk] at h;split at h
    ·rename_i e' l aW hval;obtain⟨rfl,rfl⟩:=cr (ax h);exact⟨bx,_,hb,dz aI,by rw[aY.row,aW,hval],rfl⟩
    ·rename_i n' e' l aW hval;obtain⟨rfl,rfl⟩:=cr (ax h);exact⟨bx,_,hb,dz aI,by rw[aY.row,aW,hval],rfl⟩
    ·cases h
 ·cases h
theorem aY.b7{bx:aY}{e:Ty}{l:List e.den}(hb:bx.buf=true)(hv:bx.val=.data (.slice e) l):bx.row=some (e,l.length):=by rw[aY.row,hb,hv]
theorem aY.kf{bx:aY}{e:Ty}{n:Nat}{l:(Ty.arr n e).den}(hb:bx.buf=false)(hv:bx.val=.data (.arr n e) l):bx.row=some (e,n):=by rw[aY.row,hb,hv]
theorem qA(hc:eo P cx){t e:Nat}(h:B6 cx t=some e):P.underlying t=some (.slice e)∧b6 cx.lW e=true:=by
 unfold B6 at h;split at h
 ·cases h
 ·split at h
  ·rename_i u hu;cases hm:b6 cx.lW u with
   | false=>rw[hm] at h;cases h
   | true =>
     rw[hm] at h;obtain rfl:=ax h;exact⟨hc.els _ _ hu,hm⟩
  ·cases h
theorem Gf{b aj:Nat}{i:Int}:∀{m k:Nat},(zk d b aj σ i m k).run=some σ'→∃j:Nat,k≤j∧j<k+m∧i=j∧σ'=σ.aD d (.ptr b aj [.CM j j]):=by
 intro m;induction m with
 | zero=>intro k hr;cases hr
 | succ m ih =>
   intro k hr;have hn:=eI hr;cases hi:b9 i k with
   | true =>
     rw[hi] at hn;obtain rfl:=ax hn;exact⟨k,kS _,by omega,by simpa [b9] using hi,rfl⟩
   | false =>
     rw[hi] at hn;obtain⟨j,h1,h2,h3,h4⟩:=ih hn;exact⟨j,by omega,by omega,h3,h4⟩
theorem xG{q:List uh}(h:yL q=true):bR q=0:=by
 unfold yL at h;split at h
 ·simp[bR,dz h]
 ·cases h
theorem mO(hc:eo P cx){ty:TypeId}{x:Operand}{ki:IntKind}{i:Int}(h:bZ B N γ σ a w)(hd:∀k,d=some k→k<N)(hr:(cQ cx d ty (bN σ x) i σ).run=some σ') :
  jn P B N γ σ a w d (Instr.indexAt ty (a.eval x) (.int ki i)) σ':=by
 have hv:=h.bN x;unfold cQ at hr;split at hr
 ·rename_i u e l hT hx;rw[hx] at hv;obtain⟨hb,hr2⟩:=aq hr;obtain rfl:=Ty.eq_of_beq hb;obtain⟨y,hy,fQ⟩:=bE hr2;obtain rfl:=ax fQ;obtain⟨h0,A4⟩:=lX hy;obtain⟨cq,k1,k2,k3,k4⟩:=(hc.T _ _ hT).slice;obtain⟨cs,h1,hval⟩:=cC.1 hv;have hi:i.toNat<List.length (α:=u.den) l:=(List.getElem?_eq_some_iff.1 A4).1;rcases h1 with ⟨_,h1⟩|⟨blk,off,cap,h1,h2,h3,h4⟩
  ·exfalso;have:List.length (α:=u.den) l=0:=by rw[show l=([]:List u.den) from h1];rfl
   omega
  ·rw[h1] at hval;have xE:a.eval x=.slice (some ⟨blk,off,none⟩) (List.length (α:=u.den) l) cap:=hval;obtain⟨es,g1,g2,g3⟩:=h4 _ y A4;refine bk h hd (by rw[xE];exact iI k1 (k2.sizeOf w) blk off _ cap ki h0 (by omega)) ⟨blk,off+i.toNat*u.size,es,rfl,g3,fun j v hj=>?_⟩;exact g2 j v hj
 ·rename_i m u n e l hT hx;rw[hx] at hv;obtain⟨hb,hr2⟩:=aq hr;simp only[cP] at hb;obtain rfl:=Ty.eq_of_beq hb.1;obtain rfl:=dz hb.2;obtain⟨y,hy,fQ⟩:=bE hr2;obtain rfl:=ax fQ;obtain⟨h0,A4⟩:=lX hy;obtain⟨cq,k1,k2,k3⟩:=(hc.T _ _ hT).arr;obtain⟨blk,off,cs,h1,h2,h3⟩:=hv;obtain h1:a.eval x=_:=by simpa using h1
  have hi:i.toNat<m:=by have:=(List.getElem?_eq_some_iff.1 A4).1;have:=h2.1;omega
  have iY:=h2.2.2 _ y A4;refine bk h hd (by rw[h1];exact qZ k1 (k2.sizeOf w) blk off ki h0 (by omega)) ⟨blk,off+i.toNat*u.size,_,rfl,iY,fun j v hj=>?_⟩;rw[lU] at hj;split at hj
  ·rw[rz] at hj;have:=h3 _ v hj;rw[wB];exact this
  ·cases hj
 ·rename_i u b aj hT hx;rw[hx] at hv;split at hr
  ·rename_i e n he;obtain⟨hb,hr2⟩:=aq hr;obtain rfl:=Ty.eq_of_beq hb;obtain⟨hw,fQ⟩:=bK hr2;obtain rfl:=ax fQ;obtain⟨h0,h1⟩:=rS hw;obtain⟨bx,k,jW,aI,hrow,rfl⟩:=vh he;obtain⟨cq,k1,k2,k3,k4⟩:=(hc.T _ _ hT).slice;obtain⟨e',n',g1,g2,g3⟩:=aJ jW aI hv.2;rw[hrow] at g2;obtain⟨rfl,rfl⟩:=cr (ax g2);rcases g3 with ⟨g3,g4⟩|⟨blk,cap,g3,g4⟩
   ·exfalso;have gi:=h.ok.boxes b bx jW;rw[bQ,g1] at gi;obtain⟨e2,l,j1,j2,j3⟩:=gi;rcases j3 with ⟨_,j4⟩|⟨_,_,_,_,_,j3,_⟩
    ·rw[aY.b7 g1 j1,j4] at hrow;have:0=k:=by
      have:=(cr (ax hrow)).2;simpa using this
     omega
    ·rw[g3] at j3;cases j3
   ·obtain g4:a.eval x=_:=by simpa using g4
    refine bk h hd (by rw[g4];exact iI k1 (k2.sizeOf w) blk 0 _ cap ki h0 h1) ⟨⟨_,rfl,rfl⟩,bx,jW,by omega,fun _=>⟨blk,cap,g3,by simp[bR]⟩⟩
  ·cases hr
 ·rename_i u b aj lo n hT hx;rw[hx] at hv;split at hr
  ·rename_i e n2 he;obtain⟨hb,hr2⟩:=aq hr;obtain rfl:=Ty.eq_of_beq hb;obtain⟨hw,fQ⟩:=bK hr2;obtain rfl:=ax fQ;obtain⟨h0,h1⟩:=rS hw;obtain⟨bx,k,jW,aI,hrow,rfl⟩:=vh he;obtain⟨cq,k1,k2,k3,k4⟩:=(hc.T _ _ hT).slice;obtain⟨e',n',g2,g3,g4,g5,base,cap,g6,g7,g8,gF,g9⟩:=aJ jW aI hv.2;rw[hrow] at g2;obtain⟨rfl,rfl⟩:=cr (ax g2);rcases g9 with g9|⟨blk,c,g9,g10⟩
   ·omega
   ·obtain g6:a.eval x=_:=by simpa using g6
    refine bk h hd (by rw[g6,g10];exact iI k1 (k2.sizeOf w) blk _ _ cap ki h0 (by omega)) ⟨⟨_,rfl,rfl⟩,bx,jW,by omega,fun _=>⟨blk,c,g9,?_⟩⟩;have:(plus lo i).toNat=lo.toNat+i.toNat:=by simp only[plus];omega
    simp only[bR,this,qn,uf]
  ·cases hr
 ·rename_i m u b aj p hT hx;rw[hx] at hv;obtain⟨hb,hr2⟩:=aq hr;obtain⟨bx,jW,aI⟩:=gD hb;obtain⟨hw,fQ⟩:=bK hr2;obtain rfl:=ax fQ;obtain⟨h0,h1⟩:=rS hw;obtain⟨cq,k1,k2,k3⟩:=(hc.T _ _ hT).arr;obtain⟨blk,cap,hl,hval⟩:=aJ jW aI hv.2;obtain hval:a.eval x=_:=by simpa using hval
  refine bk h hd (by rw[hval];exact qZ k1 (k2.sizeOf w) blk _ ki h0 h1) ⟨⟨_,rfl,rfl⟩,bx,jW,by omega,fun _=>⟨blk,cap,hl,?_⟩⟩;rw[rO];simp[bR]
 ·rename_i b aj q e0 k0 lo n hT hx;rw[hx] at hv;split at hr
  ·rename_i e he;obtain⟨hb,hr2⟩:=aq hr;simp only[cP,A8] at hb;obtain⟨⟨hq,rfl⟩,hl⟩:=hb;obtain⟨bx,jW,aI⟩:=gD hl;obtain⟨k1,k2⟩:=qA hc he;obtain⟨j,_,hj,rfl,rfl⟩:=Gf hr2;obtain⟨_,blk,c,g1,g2,g3,g4,base,cap,g5,g6,g7⟩:=aJ jW aI hv.2;obtain g5:a.eval x=_:=by simpa using g5
   rcases g7 with g7|g7
   ·subst g7;simp at hj
   ·rw[xG hq] at g7;have hj':((j:Nat):Int)<(n.toNat:Int):=by omega
    refine bk h hd (by rw[g5,g7];exact iI k1 ((hc.lW _ k2).2.1 w) blk _ _ cap ki (by omega) hj') ⟨⟨_,rfl,rfl⟩,bx,jW,by omega,fun _=>⟨blk,c,g1,?_⟩⟩;simp[bR]
  ·cases hr
 ·cases hr
theorem ye(hc:eo P cx){ty:TypeId}{x:Operand}{ki:IntKind}{i:Int}(h:bZ B N γ σ a w)(hd:∀k,d=some k→k<N)(hr:(gZ cx d ty (bN σ x) i σ).run=some σ') :
  jn P B N γ σ a w d (Instr.indexAt ty (a.eval x) (.int ki i)) σ':=by
 have hv:=h.bN x;unfold gZ at hr;split at hr
 ·rename_i b aj q e0 k0 lo n e hx he;rw[hx] at hv;obtain⟨hb,hr2⟩:=aq hr;simp only[cP,A8] at hb;obtain⟨⟨hq,rfl⟩,hl⟩:=hb;obtain⟨bx,jW,aI⟩:=gD hl;obtain⟨k1,k2⟩:=qA hc he;split at hr2
  ·rename_i j;obtain⟨hj,fQ⟩:=aq hr2;obtain rfl:=ax fQ;have hj:=wq hj;obtain⟨_,blk,c,g1,g2,g3,g4,base,cap,g5,g6,g7⟩:=aJ jW aI hv.2;obtain g5:a.eval x=_:=by simpa using g5
   rcases g7 with g7|g7
   ·subst g7;omega
   ·rw[xG hq] at g7;have hj':((j:Nat):Int)<(n.toNat:Int):=by omega
    show jn P B N γ σ a w d (Instr.indexAt ty (a.eval x) (.int ki (j:Int))) _
    refine bk h hd (by rw[g5,g7];exact iI k1 ((hc.lW _ k2).2.1 w) blk _ _ cap ki (by omega) hj') ⟨⟨_,rfl,rfl⟩,bx,jW,by omega,fun _=>⟨blk,c,g1,?_⟩⟩;simp[bR]
  ·cases hr2
 ·exact mO hc h hd hr
theorem u8_in(b:UInt8):IntKind.u8.min≤u8 b∧u8 b≤IntKind.u8.max:=by
 have:=b.toNat_lt;have h1:IntKind.u8.min=0:=by decide
 have h2:IntKind.u8.max=255:=by decide
 simp only[u8,h1,h2];omega
theorem yf(hc:eo P cx){ty:TypeId}{x:Operand}{ki:IntKind}{i:Int}(h:bZ B N γ σ a w)(hd:∀k,d=some k→k<N)(hr:(hJ cx d ty (bN σ x) i σ).run=some σ') :
  jn P B N γ σ a w d (Instr.index ty (a.eval x) (.int ki i)) σ':=by
 have hv:=h.bN x;unfold hJ at hr;split at hr
 ·rename_i s hT hx;rw[hx] at hv;obtain⟨b,hy,fQ⟩:=bE hr;obtain rfl:=ax fQ;obtain⟨h0,A4⟩:=lX hy;obtain⟨hval,hl⟩:=o9 hv;refine bk h hd (x:=.int .u8 (u8 b)) ?_ (mkInt (u8_in b));rw[hval];have hu:=(hc.T _ _ hT).str;have hg:(⟨List.toArray (show List UInt8 from s)⟩:ByteArray)[i.toNat]?=some b:=by
   have:=(List.getElem?_eq_some_iff.1 A4);obtain⟨q1,q2⟩:=this;have hsz:i.toNat<(⟨List.toArray (show List UInt8 from s)⟩:ByteArray).size:=q1;rw[getElem?_pos (⟨List.toArray (show List UInt8 from s)⟩:ByteArray) i.toNat hsz];exact congrArg some q2
  simp only[Instr.index,asIntOf,Sem.run_bind,Sem.run_pure,Result.andThen_ok,run_underlying hu,h0,jr,hg];rfl
 ·rename_i m u n e l hT hx;rw[hx] at hv;obtain⟨hb,hr2⟩:=aq hr;simp only[cP] at hb;obtain rfl:=Ty.eq_of_beq hb.1;obtain rfl:=dz hb.2;obtain⟨y,hy,fQ⟩:=bE hr2;obtain rfl:=ax fQ;obtain⟨h0,A4⟩:=lX hy;obtain⟨cq,k1,k2,k3⟩:=(hc.T _ _ hT).arr;obtain⟨cs,h2,hval⟩:=cC.1 hv;have hi:i.toNat<m:=by have:=(List.getElem?_eq_some_iff.1 A4).1;have:=h2.1;omega
  have iY:=h2.2.2 _ y A4;have hm:(i.toNat+1)*u.size≤m*u.size:=lT _ hi;rw[rF] at hm;have hcl:=h2.2.1;have hp:=sO (P:=P) (w:=w) k2 (cs:=cs.toArray) (off:=i.toNat*u.size) (by simp;omega) lY;refine bk h hd (x:=bO u ((cs.drop (i.toNat*u.size)).take u.size)) ?_ ⟨_,iY,rfl⟩;have hi':i<(m:Int):=by omega
  rw[hval];show(Instr.index ty (.agg cs.toArray) (.int ki i)).run P w=_
  simp only[Instr.index,asIntOf,Sem.run_bind,Sem.run_pure,Result.andThen_ok,run_underlying k1,h0,hi',zg,jr,k2.sizeOf w,hp]
 ·cases hr
theorem T8(isSlice:Bool)(len cap:Nat):(Instr.sliceBounds isSlice len cap none none none).run P w=.ok (0,len,cap) w:=by simp[Instr.sliceBounds]
theorem T9(isSlice:Bool)(len cap:Nat)(k:IntKind){y:Int}(h0:0≤y)(h1:y≤cap):(Instr.sliceBounds isSlice len cap none (some (.int k y)) none).run P w=.ok (0,y.toNat,cap) w:=by
 have c1:(0:Int)≤y∧y≤(cap:Int):=⟨h0,h1⟩;simp only[Instr.sliceBounds,Instr.sliceBound,asIntOf,Sem.run_bind,Sem.run_pure,Result.andThen_ok,c1,zg,jr]
theorem Ua(isSlice:Bool)(len cap:Nat)(k:IntKind){y:Int}(h0:0≤y)(h1:y≤len):(Instr.sliceBounds isSlice len cap (some (.int k y)) none none).run P w=.ok (y.toNat,len,cap) w:=by
 have c1:(0:Int)≤y∧y≤(len:Int):=⟨h0,h1⟩;simp only[Instr.sliceBounds,Instr.sliceBound,asIntOf,Sem.run_bind,Sem.run_pure,Result.andThen_ok,c1,zg,jr]
theorem R1(isSlice:Bool)(len cap:Nat)(k k2:IntKind){y y2:Int}(h0:0≤y)(h1:y≤y2)(h2:y2≤cap):(Instr.sliceBounds isSlice len cap (some (.int k y)) (some (.int k2 y2)) none).run P w=.ok (y.toNat,y2.toNat,cap) w:=by
 have c1:(0:Int)≤y2∧y2≤(cap:Int):=⟨by omega,h2⟩;have c2:(0:Int)≤y∧y≤((y2.toNat:Nat):Int):=⟨h0,by omega⟩;simp only[Instr.sliceBounds,Instr.sliceBound,asIntOf,Sem.run_bind,Sem.run_pure,Result.andThen_ok,c1,zg,jr];simp only[c2,zg,jr,Sem.run_pure,Result.andThen_ok]
theorem jG{lo hi:Option Operand}{n:Int}{i j:Int}(h:bZ B N γ σ a w)(hb:bounds σ n lo hi=some (i,j))(isSlice:Bool)(len cap:Nat)(hn:n=len)(hlc:len≤cap)(h0:0≤i)(h1:i≤j)(h2:j≤n) :
  (Instr.sliceBounds isSlice len cap (lo.map a.eval) (hi.map a.eval) none).run P w=.ok (i.toNat,j.toNat,cap) w:=by
 have Nq:∀(o:Operand) k (m:Int),bN σ o=.data (.int k) m→a.eval o=.int k m:=fun o k m e=>by
  have:=h.bN o;rw[e] at this;exact(mK this).1
 unfold bounds at hb;cases lo with
 | none =>
   cases hi with
   | none =>
     obtain⟨rfl,rfl⟩:=cr (ax hb);have:=T8 (P:=P) (w:=w) isSlice len cap;rw[hn];simpa using this
   | some o =>
     simp only at hb;split at hb
     ·rename_i k y hy;obtain⟨rfl,e2⟩:=cr (ax hb);have e:=Nq o k _ hy;rw[show y=j from e2] at e;simp only[wu,Option.map_none,e];exact T9 isSlice len cap k h1 (by omega)
     ·cases hb
 | some o =>
   cases hi with
   | none =>
     simp only at hb;split at hb
     ·rename_i k y hy;obtain⟨e2,rfl⟩:=cr (ax hb);have e:=Nq o k _ hy;rw[show y=i from e2] at e;simp only[wu,Option.map_none,e];have:=Ua (P:=P) (w:=w) isSlice len cap k h0 (by omega);rw[hn];simpa using this
     ·cases hb
   | some o2 =>
     simp only at hb;split at hb
     ·rename_i k y k2 y2 hy A4;obtain⟨e3,e4⟩:=cr (ax hb);have e:=Nq o k _ hy;have e2:=Nq o2 k2 _ A4;rw[show y=i from e3] at e;rw[show y2=j from e4] at e2;simp only[wu,e,e2];exact R1 isSlice len cap k k2 h0 h1 (by omega)
     ·cases hb
theorem Ey(s:List UInt8){i j:Int}(h0:0≤i)(h1:i≤j):(⟨s.toArray⟩:ByteArray).extract i.toNat j.toNat=⟨(sub s i (minus j i)).toArray⟩:=by
 have:(minus j i).toNat=j.toNat-i.toNat:=by simp only[minus];omega
 apply ByteArray.ext;rw[ByteArray.data_extract];apply Eg;simp[sub,this,List.extract_eq_take_drop]
theorem Gg{α:Type}(s:List α)(i n:Int):(sub s i n).length≤s.length:=by
 simp only[sub,iA,ou];omega
theorem Lb{I:Nat→Nat→Prop}{e:Ty}{l:List e.den}{blk off cap i j:Nat}(h4:∀(k:Nat) (x:e.den),l[k]?=some x→∃es:List Value,es.length=e.size ∧
   (∀(q:Nat) v,es[q]?=some v→w.cell? ⟨blk,off+k*e.size+q,none⟩=some v∧I blk (off+k*e.size+q))∧bt w I e x es) (h1:i≤j) (h2:j≤l.length) (h3:l.length≤cap) (h5:cap≤maxLen) (base:Option Addr)
  (hb:base=some ⟨blk,off+i*e.size,none⟩∨(i=cap∧base=some ⟨blk,off,none⟩)) :
  bt w I (.slice e) ((l.drop i).take (j-i)) [.slice base (j-i) (cap-i)]:=by
 have hlen:((l.drop i).take (j-i)).length=j-i:=by simp;omega
 rcases hb with rfl|⟨rfl,rfl⟩
 ·refine .inr ⟨blk,off+i*e.size,cap-i,?_,?_,by omega,fun k x hk=>?_⟩
  ·show [Value.slice _ (j-i) _]=[Value.slice _ (List.length (α:=e.den) ((l.drop i).take (j-i))) _]
   rw[hlen]
  ·show List.length (α:=e.den) ((l.drop i).take (j-i))≤_
   rw[hlen];omega
  ·have hk':((l.drop i).take (j-i))[k]?=some x:=hk;rw[lU] at hk';split at hk'
   ·rw[rz] at hk';obtain⟨es,g1,g2,g3⟩:=h4 _ x hk';refine⟨es,g1,fun q v hq=>?_,g3⟩;have:=g2 q v hq;rw[qn,←wB] at this;exact this
   ·cases hk'
 ·have hji:j=i:=by omega
  subst hji;refine .inr ⟨blk,off,0,by simp,by simp,by omega,fun k x hk=>?_⟩;have hk':((l.drop j).take (j-j))[k]?=some x:=hk;simp at hk'
theorem sub_eq{α:Type}(l:List α){i j:Int}(h0:0≤i)(h1:i≤j):sub l i (minus j i)=(l.drop i.toNat).take (j.toNat-i.toNat):=by
 have:(minus j i).toNat=j.toNat-i.toNat:=by simp only[minus];omega
 rw[sub,this]
theorem sub_zero{α:Type}(l:List α):sub l 0 (minus 0 0)=[]:=by simp[sub,minus]
theorem I8{I:Nat→Nat→Prop}{e:Ty}{l:List e.den}{blk off cap:Nat}{i j:Int}(h4:∀(k:Nat) (x:e.den),l[k]?=some x→∃es:List Value,es.length=e.size ∧
   (∀(q:Nat) v,es[q]?=some v→w.cell? ⟨blk,off+k*e.size+q,none⟩=some v∧I blk (off+k*e.size+q))∧bt w I e x es) (h0:0≤i) (h1:i≤j) (h2:j≤l.length) (h3:l.length≤cap) (h5:cap≤maxLen) (base:Option Addr)
  (hb:base=some ⟨blk,off+i.toNat*e.size,none⟩∨(i.toNat=cap∧base=some ⟨blk,off,none⟩)) :
  bt w I (.slice e) (sub l i (minus j i)) [.slice base (j.toNat-i.toNat) (cap-i.toNat)]:=by
 rw[sub_eq l h0 h1];exact Lb (w:=w) h4 (by omega) (by omega) h3 h5 base hb
theorem nP.sub{base:Option Addr}{cap:Nat}(h:nP base cap)(i s:Nat):nP (if cap=i then base else base.map (·.add s)) (cap-i):=by
 rcases h with rfl|⟨blk,off,rfl⟩
 ·exact .inl (by omega)
 ·refine .inr ?_;split
  ·exact⟨blk,off,rfl⟩
  ·exact⟨blk,off+s,by rw[wu,addr_add]⟩
theorem u6.sub{bx:aY}{b:Nat}{lo i:Int}{base:Option Addr}{cap:Nat}(h:u6 γ bx b lo base cap)(hlo:0≤lo)(h0:0≤i)(s:Nat) :
  u6 γ bx b (plus lo i) (if cap=i.toNat then base else base.map (·.add (i.toNat*s))) (cap-i.toNat):=by
 intro e hb;have e1:lo=0:=by simp only[plus] at e;omega
 have e2:i=0:=by simp only[plus] at e;omega
 subst e1;subst e2;rcases h rfl hb with ⟨a1,rfl,rfl⟩|⟨blk,a1,rfl⟩
 ·exact .inl ⟨a1,by simp,rfl⟩
 ·refine .inr ⟨blk,by simpa using a1,?_⟩;split
  ·rfl
  ·simp[Addr.add]
theorem yg(hc:eo P cx){ty:TypeId}{x:Operand}{lo hi:Option Operand}(h:bZ B N γ σ a w)(hd:∀k,d=some k→k<N)(hr:(gY cx d ty (bN σ x) lo hi σ).run=some σ') :
  jn P B N γ σ a w d (Instr.sliceAt ty (a.eval x) (lo.map a.eval) (hi.map a.eval) none) σ':=by
 have hv:=h.bN x;unfold gY at hr;split at hr
 ·
  rename_i s hT hx;rw[hx] at hv;split at hr
  ·rename_i i j hb;obtain⟨hin,hr2⟩:=bK hr;obtain rfl:=ax hr2;obtain⟨h0,h1,h2⟩:=iJ hin;obtain⟨hval,hl⟩:=o9 hv;have hu:=(hc.T _ _ hT).str;have I9:=jG (P:=P) h hb false (List.length (α:=UInt8) s) (List.length (α:=UInt8) s) rfl (kS _) h0 h1 h2;refine bk h hd (x:=.string ⟨(sub (α:=UInt8) s i (minus j i)).toArray⟩) ?_ (mkStr (jq (Gg (α:=UInt8) s _ _) hl));rw[hval];have hsz:(⟨List.toArray (α:=UInt8) s⟩:ByteArray).size=List.length (α:=UInt8) s:=rfl;simp only[Instr.sliceAt,Instr.slice,Sem.run_bind,run_underlying hu,Result.andThen_ok,hsz,Option.isSome_none,FY,wD];rw[I9];simp only[Result.andThen_ok,Sem.run_pure];rw[Ey (show List UInt8 from s) h0 h1]
  ·cases hr
 ·
  rename_i u e l hT hx;rw[hx] at hv;obtain⟨HZ,gE⟩:=aq hr;obtain rfl:=Ty.eq_of_beq HZ;split at gE
  ·rename_i i j hb;obtain⟨hin,hr2⟩:=bK gE;obtain rfl:=ax hr2;obtain⟨h0,h1,h2⟩:=iJ hin;obtain⟨cq,k1,k2,k3,k4⟩:=(hc.T _ _ hT).slice;obtain⟨cs,rR,hval⟩:=cC.1 hv;have OK:len (α:=u.den) l=(List.length (α:=u.den) l:Int):=rfl;rcases rR with ⟨⟨Lc,e1⟩,e2⟩|⟨blk,off,cap,e1,e2,e3,e4⟩
   ·have xE:a.eval x=.slice Lc 0 0:=by rw[hval,e1];rfl
    have Kf:List.length (α:=u.den) l=0:=by rw[show l=([]:List u.den) from e2];rfl
    rw[OK,Kf] at h2;have hi0:i=0:=by omega
    have hj0:j=0:=by omega
    subst hi0;subst hj0;have I9:=jG (P:=P) h hb true 0 0 (by rw[OK,Kf]) (kS _) h0 h1 (by rw[OK,Kf];exact h2);refine bk h hd (x:=.slice Lc 0 0) ?_ ⟨_,.inl ⟨⟨Lc,rfl⟩,?_⟩,rfl⟩
    ·rw[xE];simp only[Instr.sliceAt,Instr.slice,Sem.run_bind,run_underlying k1,Result.andThen_ok,I9,k2.sizeOf w,Sem.run_pure];rfl
    ·exact sub_zero (α:=u.den) l
   ·have xE:a.eval x=.slice (some ⟨blk,off,none⟩) (List.length (α:=u.den) l) cap:=by rw[hval,e1];rfl
    have I9:=jG (P:=P) h hb true (List.length (α:=u.den) l) cap OK e2 h0 h1 h2;have hj:j.toNat≤List.length (α:=u.den) l:=by rw[OK] at h2;omega
    have hmain:=I8 (w:=w) (i:=i) (j:=j) e4 h0 h1 (by rw[OK] at h2;exact h2) e2 e3;refine bk h hd (x:=.slice (if cap=i.toNat then some ⟨blk,off,none⟩ else some ⟨blk,off+i.toNat*u.size,none⟩) (j.toNat-i.toNat) (cap-i.toNat)) ?_
     ⟨_,hmain (if cap=i.toNat then some ⟨blk,off,none⟩ else some ⟨blk,off+i.toNat*u.size,none⟩) (by
      split
      ·rename_i hcap;exact .inr ⟨hcap.symm,rfl⟩
      ·exact .inl rfl),rfl⟩
    rw[xE];simp only[Instr.sliceAt,Instr.slice,Sem.run_bind,run_underlying k1,Result.andThen_ok,I9,k2.sizeOf w,Sem.run_pure,wu,addr_add]
  ·cases gE
 ·
  rename_i u c aj lo' n hT hx;rw[hx] at hv;split at hr
  ·rename_i bx jW;obtain⟨HZ,gE⟩:=aq hr;simp only[cP] at HZ;have aI:=dz HZ.1;split at gE
   ·rename_i i j hb;obtain⟨hin,hr2⟩:=bK gE;obtain rfl:=ax hr2;obtain⟨h0,h1,h2⟩:=iJ hin;obtain⟨cq,k1,k2,k3,k4⟩:=(hc.T _ _ hT).slice;obtain⟨e',k,g2,g3,g4,g5,base,cap,g6,g7,g8,gF,g9⟩:=aJ jW aI hv.2;have R4:u=e':=by
     have:=HZ.2;rw[g2] at this;exact Ty.eq_of_beq this
    subst R4;obtain g6:a.eval x=_:=by simpa using g6
    have I9:=jG (P:=P) h hb true n.toNat cap (by omega) g7 h0 h1 h2;refine bk h hd (x:=.slice (if cap=i.toNat then base else base.map (·.add (i.toNat*u.size))) (j.toNat-i.toNat) (cap-i.toNat)) ?_
     ⟨⟨_,rfl,rfl⟩,bx,jW,by omega,fun _=>⟨u,k,g2,by simp only[plus];omega,by simp only[minus];omega,by simp only[plus,minus];omega,(if cap=i.toNat then base else base.map (·.add (i.toNat*u.size))),cap-i.toNat,?_,?_,?_,⟨gF.1.sub _ _,gF.2.sub g3 h0 _⟩,?_⟩⟩
    ·rw[g6];simp only[Instr.sliceAt,Instr.slice,Sem.run_bind,run_underlying k1,Result.andThen_ok,I9,k2.sizeOf w,Sem.run_pure]
    ·have:(minus j i).toNat=j.toNat-i.toNat:=by simp only[minus];omega
     rw[this]
    ·simp only[minus];omega
    ·omega
    ·rcases g9 with g9|⟨blk,c',g9,g10⟩
     ·exact .inl (by simp only[minus];omega)
     ·by_cases hcap:cap=i.toNat
      ·exact .inl (by simp only[minus];omega)
      ·refine .inr ⟨blk,c',g9,?_⟩;rw[cT hcap,g10];have:(plus lo' i).toNat=lo'.toNat+i.toNat:=by simp only[plus];omega
       simp only[wu,addr_add,this,qn]
   ·cases gE
  ·cases hr
 ·
  rename_i u c aj hT hx;rw[hx] at hv;split at hr
  ·rename_i bx jW;obtain⟨HZ,gE⟩:=aq hr;simp only[cP] at HZ;have aI:=dz HZ.1;split at gE
   ·rename_i e l iZ;obtain⟨R4,hr2⟩:=aq gE;obtain rfl:=Ty.eq_of_beq R4;obtain⟨cq,k1,k2,k3,k4⟩:=(hc.T _ _ hT).slice;obtain⟨e',n',g1,g2,g3⟩:=aJ jW aI hv.2;have hrow:bx.row=some (u,List.length (α:=u.den) l):=aY.b7 HZ.2 iZ;rw[hrow] at g2;obtain⟨rfl,rfl⟩:=cr (ax g2);have gi:=h.ok.boxes c bx jW;rw[bQ,g1] at gi;obtain⟨e2,l2,j1,j2,j3⟩:=gi;have QD:∃base cap,a.eval x=.slice base (List.length (α:=u.den) l) cap∧List.length (α:=u.den) l≤cap∧cap≤maxLen∧(((cap=0∧List.length (α:=u.den) l=0)∧γ.loc c=none∧base=none)∨∃blk,γ.loc c=some (blk,cap)∧base=some ⟨blk,0,none⟩):=by
     rw[iZ] at j1;cases j1;rcases g3 with ⟨g3,g4⟩|⟨blk,cap,g3,g4⟩
     ·obtain g4:a.eval x=_:=by simpa using g4
      rcases j3 with ⟨_,j4⟩|⟨_,_,_,_,_,j3,_⟩
      ·have Kf:List.length (α:=u.den) l=0:=by rw[j4];rfl
       exact⟨none,0,by rw[g4,Kf],by omega,oZ _,.inl ⟨⟨rfl,Kf⟩,g3,rfl⟩⟩
      ·rw[g3] at j3;cases j3
     ·obtain g4:a.eval x=_:=by simpa using g4
      rcases j3 with ⟨j3,_⟩|⟨cB,cap',cur,tid,fr,q1,q2,q3,ez,q4,q5,q6,q7⟩
      ·rw[g3] at j3;cases j3
      ·rw[g3] at q1;obtain⟨rfl,rfl⟩:=cr (ax q1);exact⟨_,cap,g4,q4,q5,.inr ⟨blk,g3,rfl⟩⟩
    obtain⟨base,cap,m1,m2,m3,m4⟩:=QD;have hF:nP base cap:=by
     rcases m4 with ⟨⟨q2,_⟩,_⟩|⟨blk,q1,q2⟩
     ·exact .inl q2
     ·exact .inr ⟨blk,0,q2⟩
    have hZ:u6 γ bx c 0 base cap:=fun _ _=>by
     rcases m4 with ⟨⟨q2,_⟩,q3,q4⟩|⟨blk,q1,q2⟩
     ·exact .inl ⟨q3,q4,q2⟩
     ·exact .inr ⟨blk,q1,q2⟩
    have H6:∀{i j:Int},bounds σ (len (α:=u.den) l) lo hi=some (i,j)→0≤i→i≤j→j≤len (α:=u.den) l →
      (Instr.sliceAt ty (a.eval x) (lo.map a.eval) (hi.map a.eval) none).run P w=.ok (.slice (if cap=i.toNat then base else base.map (·.add (i.toNat*u.size))) (j.toNat-i.toNat) (cap-i.toNat)) w:=by
     intro i j hb h0 h1 h2;have I9:=jG (P:=P) h hb true (List.length (α:=u.den) l) cap rfl m2 h0 h1 h2;rw[m1];simp only[Instr.sliceAt,Instr.slice,Sem.run_bind,run_underlying k1,Result.andThen_ok,I9,k2.sizeOf w,Sem.run_pure]
    split at hr2
    ·obtain rfl:=ax hr2;have:=H6 (i:=0) (j:=len (α:=u.den) l) rfl (by omega) (by simp only[len];omega) (by omega);have hjl:(len (α:=u.den) l).toNat=List.length (α:=u.den) l:=by simp[len]
     rw[hjl] at this;refine bk h hd (x:=a.eval x) ?_ hv;rw[this,m1]
     congr 1
     have:(base.map (·.add ((0:Int).toNat*u.size)))=base:=by cases base<;>simp[Addr.add]
     rw[this];simp
    ·split at hr2
     ·rename_i i j hb;obtain⟨hin,fQ⟩:=bK hr2;obtain rfl:=ax fQ;obtain⟨h0,h1,h2⟩:=iJ hin;have OK:len (α:=u.den) l=(List.length (α:=u.den) l:Int):=rfl;rw[OK] at h2;refine bk h hd (H6 hb h0 h1 h2)
       ⟨⟨_,rfl,rfl⟩,bx,jW,by omega,fun _=>⟨u,_,hrow,h0,by simp only[minus];omega,by simp only[minus];omega,(if cap=i.toNat then base else base.map (·.add (i.toNat*u.size))),cap-i.toNat,?_,?_,?_,⟨hF.sub _ _,by have:=hZ.sub (HU 0) h0 u.size;rwa [show plus 0 i=i by simp[plus]] at this⟩,?_⟩⟩
      ·have:(minus j i).toNat=j.toNat-i.toNat:=by simp only[minus];omega
       rw[this]
      ·simp only[minus];omega
      ·omega
      ·by_cases hcap:cap=i.toNat
       ·exact .inl (by simp only[minus];omega)
       ·rcases m4 with ⟨q1,q3⟩|⟨blk,q1,q2⟩
        ·exact .inl (by simp only[minus];omega)
        ·refine .inr ⟨blk,cap,q1,?_⟩;rw[cT hcap,q2];simp only[wu,addr_add,oY]
     ·cases hr2
   ·cases gE
  ·cases hr
 ·
  rename_i m u c aj s q hT hx;rw[hx] at hv;obtain⟨Nr,gE⟩:=aq hr;simp only[cP] at Nr;obtain⟨bx,jW,aI⟩:=gD Nr.1;have R5:=ya Nr.2;split at gE
  ·rename_i i j hb;obtain⟨hin,fQ⟩:=bK gE;obtain rfl:=ax fQ;obtain⟨h0,h1,h2⟩:=iJ hin;obtain⟨cq,k1,k2,k3⟩:=(hc.T _ _ hT).arr;obtain⟨blk,cap,hl,hval⟩:=aJ jW aI hv.2;obtain hval:a.eval x=.pointer (some ⟨blk,bR (s::q),none⟩):=by simpa using hval
   have I9:=jG (P:=P) h hb false m m rfl (kS _) h0 h1 h2;refine bk h hd (x:=.slice (some (if m=i.toNat then⟨blk,bR (s::q),none⟩ else(⟨blk,bR (s::q),none⟩:Addr).add (i.toNat*u.size))) (j.toNat-i.toNat) (m-i.toNat)) ?_
    ⟨⟨_,rfl,rfl⟩,bx,jW,by omega,fun _=>⟨by simp,blk,cap,hl,h0,by simp only[minus];omega,by simp only[minus];omega,some (if m=i.toNat then⟨blk,bR (s::q),none⟩ else(⟨blk,bR (s::q),none⟩:Addr).add (i.toNat*u.size)),m-i.toNat,?_,?_,?_⟩⟩
   ·rw[hval];simp only[Instr.sliceAt,Sem.run_bind,run_underlying k1,Result.andThen_ok,Instr.sureAddr,Sem.run_pure,I9,k2.sizeOf w]
   ·have:(minus j i).toNat=j.toNat-i.toNat:=by simp only[minus];omega
    rw[this]
   ·simp only[minus];omega
   ·by_cases hcap:m=i.toNat
    ·exact .inl (by simp only[minus];omega)
    ·refine .inr ?_;rw[cT hcap];simp only[addr_add]
  ·cases gE
 ·
  rename_i m u c aj hT hx;rw[hx] at hv;split at hr
  ·rename_i bx jW;obtain⟨HZ,gE⟩:=aq hr;simp only[cP,iE] at HZ;have aI:=dz HZ.1;split at gE
   ·rename_i n e l iZ;obtain⟨hq,hr2⟩:=aq gE;simp only[cP] at hq;obtain rfl:=dz hq.1.1;obtain rfl:=Ty.eq_of_beq hq.1.2;have R5:=ya hq.2;split at hr2
    ·rename_i i j hb;obtain⟨hin,fQ⟩:=bK hr2;obtain rfl:=ax fQ;obtain⟨h0,h1,h2⟩:=iJ hin;obtain⟨cq,k1,k2,k3⟩:=(hc.T _ _ hT).arr;obtain⟨blk,cap,hl,hval⟩:=aJ jW aI hv.2;obtain hval:a.eval x=.pointer (some ⟨blk,0,none⟩):=by simpa [bR] using hval
     have I9:=jG (P:=P) h hb false m m rfl (kS _) h0 h1 h2;have hF:nP (some (if m=i.toNat then⟨blk,0,none⟩ else(⟨blk,0,none⟩:Addr).add (i.toNat*u.size))) (m-i.toNat):=by
      refine .inr ?_;split
      ·exact⟨blk,0,rfl⟩
      ·exact⟨blk,0+i.toNat*u.size,by rw[addr_add]⟩
     refine bk h hd (x:=.slice (some (if m=i.toNat then⟨blk,0,none⟩ else(⟨blk,0,none⟩:Addr).add (i.toNat*u.size))) (j.toNat-i.toNat) (m-i.toNat)) ?_
      ⟨⟨_,rfl,rfl⟩,bx,jW,by omega,fun _=>⟨u,m,aY.kf HZ.2 iZ,h0,by simp only[minus];omega,by simp only[minus];omega,some (if m=i.toNat then⟨blk,0,none⟩ else(⟨blk,0,none⟩:Addr).add (i.toNat*u.size)),m-i.toNat,?_,?_,?_,⟨hF,fun _ hb=>by rw[HZ.2] at hb;cases hb⟩,?_⟩⟩
     ·rw[hval];simp only[Instr.sliceAt,Sem.run_bind,run_underlying k1,Result.andThen_ok,Instr.sureAddr,Sem.run_pure,I9,k2.sizeOf w]
     ·have:(minus j i).toNat=j.toNat-i.toNat:=by simp only[minus];omega
      rw[this]
     ·simp only[minus];omega
     ·simp only[maxLen];omega
     ·by_cases hcap:m=i.toNat
      ·exact .inl (by simp only[minus];omega)
      ·refine .inr ⟨blk,cap,hl,?_⟩;rw[cT hcap];simp only[addr_add,oY]
    ·cases hr2
   ·cases gE
  ·cases hr
 ·cases hr
end
end Go.Ge
namespace Go.Ge
open RowKit
section
variable {P:Program} {B:ld} {N:Nat} {γ:Gh} {σ σ':St} {a:Act} {w:World} {d:Option Nat} {cx:Ctx}
theorem bt.flat{w w':World}{I I':Nat→Nat→Prop}:∀{t:Ty} {x:t.den} {cs:List Value},t.flat=true→bt w I t x cs→bt w' I' t x cs:=by
 intro t;induction t with
 | int k=>intro x cs _ h;exact h
 | bool=>intro x cs _ h;exact h
 | str=>intro x cs _ h;exact h
 | slice e ih=>intro x cs hf;cases hf
 | arr n e ih=>intro x cs hf h;exact⟨h.1,h.2.1,fun i y hy=>ih hf (h.2.2 i y hy)⟩
 | pair a b gy iu =>
   intro x cs hf h;simp only[Ty.flat,cP] at hf;obtain⟨c1,c2,h0,h1,h2⟩:=h;exact⟨c1,c2,h0,gy hf.1 h1,iu hf.2 h2⟩
 | unit=>intro x cs _ h;exact h
 | alt u a r gy ihr =>
   intro x cs hf h;simp only[Ty.flat,cP] at hf;rcases x with y|z
   ·obtain⟨h1,c,h2,h3⟩:=h;exact⟨h1,c,h2,gy hf.1 h3⟩
   ·exact ihr hf.2 (show bt w I r z cs from h)
 | td=>intro x cs _ h;exact h
def rT(w:World)(I:Nat→Nat→Prop)(e:Ty)(l:List e.den)(v:Value):Prop :=
 (l=[]∧∃base cap,v=.slice base 0 cap∧cap≤maxLen∧nP base cap) ∨
 ∃blk off cap,v=.slice (some ⟨blk,off,none⟩) l.length cap∧l.length≤cap∧cap≤maxLen ∧
  ∀(i:Nat) (x:e.den),l[i]?=some x→∃es:List Value,es.length=e.size ∧
   (∀(j:Nat) c,es[j]?=some c→w.cell? ⟨blk,off+i*e.size+j,none⟩=some c)∧bt w I e x es
theorem qB{I:Nat→Nat→Prop}{e:Ty}{l:List e.den}{blk:Nat}{cur:Array Value}{tid:TypeId}{fr:Nat×Nat}(hg:w.heap[blk]?=some (.cells cur tid fr)){n:Nat}(hn:n*e.size≤cur.size)
  (h:∀(i:Nat) (x:e.den),l[i]?=some x→bt w I e x ((cur.toList.drop (i*e.size)).take e.size)) (hl:l.length≤n) (lo:Nat) :
  ∀(i:Nat) (x:e.den),(l.drop lo)[i]?=some x→∃es:List Value,es.length=e.size ∧
   (∀(j:Nat) c,es[j]?=some c→w.cell? ⟨blk,lo*e.size+i*e.size+j,none⟩=some c)∧bt w I e x es:=by
 intro i x hx;rw[rz] at hx;have hr:=h _ x hx;have hlt:=(List.getElem?_eq_some_iff.1 hx).1;refine⟨_,hr.length,fun j c hj=>?_,hr⟩;rw[cell_of_heap hg];rw[lU] at hj;split at hj
 ·rw[rz] at hj;rw[←qn];simpa using hj
 ·cases hj
theorem bQ.row{b:Nat}{bx:aY}{mem:Nat→Option aY}(h:bQ γ mem w b bx){blk cap:Nat}(hl:γ.loc b=some (blk,cap)) :
  (∀(e:Ty) (l:List e.den),bx.buf=true→bx.val=.data (.slice e) l→∃cur tid fr,w.heap[blk]?=some (.cells cur tid fr)∧jm cur fr∧l.length≤cap∧cap≤maxLen∧cur.size=cap*e.size∧0<e.size ∧
   ∀(i:Nat) (x:e.den),l[i]?=some x→bt w γ.I e x ((cur.toList.drop (i*e.size)).take e.size)) ∧
  (∀(n:Nat) (e:Ty) (l:List e.den),bx.buf=false→bx.val=.data (.arr n e) l→∃cur tid fr,w.heap[blk]?=some (.cells cur tid fr)∧jm cur fr∧l.length=n∧cur.size=n*e.size ∧
   ∀(i:Nat) (x:e.den),l[i]?=some x→bt w γ.I e x ((cur.toList.drop (i*e.size)).take e.size)):=by
 refine⟨fun e l hb hv=>?_,fun n e l hb hv=>?_⟩
 ·rw[bQ,hb] at h;obtain⟨e',l',h1,h2,h3⟩:=h;rw[hv] at h1;cases h1;rcases h3 with ⟨h3,_⟩|⟨cB,cap',cur,tid,fr,q1,q2,q3,ez,q4,q5,q6,q7⟩
  ·rw[hl] at h3;cases h3
  ·rw[hl] at q1;obtain⟨rfl,rfl⟩:=cr (ax q1);exact⟨cur,tid,fr,q2,q3.th,q4,q5,q6,h2,q7⟩
 ·rw[bQ,hb] at h;obtain⟨cB,cap',cur,tid,fr,q1,q2,q3,ez,q4⟩:=h;rw[hl] at q1;obtain⟨rfl,rfl⟩:=cr (ax q1);rw[hv] at q4;obtain⟨r1,r2,r3⟩:=q4;exact⟨cur,tid,fr,q2,q3,r1,by simpa using r2,r3⟩
theorem vi{u e:Ty}{l:List u.den}{m:List e.den}(h:toL u e l=some m):∃q:u=e,m=q▸l:=gA h
theorem iK{e:Ty}{v:ay}{l:List e.den}(hl:eK e σ v=some l) :
  v=.data (.slice e) l∨(v=.js∧l=[])∨(∃b aj bx,v=.whole b aj∧σ.mem b=some bx∧bx.aj=aj∧bx.buf=true∧bx.val=.data (.slice e) l) ∨
  ∃b aj lo n bx,v=.part b aj lo n∧σ.mem b=some bx∧bx.aj=aj∧((bx.buf=true∧∃l0:List e.den,bx.val=.data (.slice e) l0∧l=sub l0 lo n)∨(bx.buf=false∧∃(k:Nat) (l0:List e.den),bx.val=.data (.arr k e) l0∧l=sub l0 lo n)):=by
 unfold eK at hl;split at hl
 ·obtain⟨q,rfl⟩:=vi hl;subst q;exact .inl rfl
 ·exact .inr (.inl ⟨rfl,(ax hl).symm⟩)
 ·rename_i b aj;split at hl
  ·rename_i bx hb;cases hc:(Nat.beq bx.aj aj&&bx.buf) with
   | false=>rw[hc,gj] at hl;exact absurd hl (by simp)
   | true =>
     rw[hc,jk] at hl;simp only[cP] at hc;split at hl
     ·rename_i u l0 iZ;obtain⟨q,rfl⟩:=vi hl;subst q;exact .inr (.inr (.inl ⟨b,aj,bx,rfl,hb,dz hc.1,hc.2,iZ⟩))
     ·exact absurd hl (by simp)
  ·exact absurd hl (by simp)
 ·rename_i b aj lo n;split at hl
  ·rename_i bx hb;cases hc:Nat.beq bx.aj aj with
   | false=>rw[hc,gj] at hl;exact absurd hl (by simp)
   | true =>
     rw[hc,jk] at hl;split at hl
     ·rename_i u l0 aW iZ;obtain⟨q,rfl⟩:=vi hl;subst q;exact .inr (.inr (.inr ⟨b,aj,lo,n,bx,rfl,hb,dz hc,.inl ⟨aW,l0,iZ,rfl⟩⟩))
     ·rename_i k0 u l0 aW iZ;obtain⟨q,rfl⟩:=vi hl;subst q;exact .inr (.inr (.inr ⟨b,aj,lo,n,bx,rfl,hb,dz hc,.inr ⟨aW,k0,l0,iZ,rfl⟩⟩))
     ·exact absurd hl (by simp)
  ·exact absurd hl (by simp)
 ·exact absurd hl (by simp)
theorem yU{α:Type}{l:List α}{lo n:Int}(h0:0≤lo)(h1:0≤n)(h2:lo+n≤l.length):(sub l lo n).length=n.toNat:=by
 simp only[sub,iA,ou];omega
theorem lg(hm:aV B γ σ.mem w){e:Ty}{v:ay}{val:Value}{l:List e.den}(hv:bH γ σ.mem w v .val [val])(hl:eK e σ v=some l):rT w γ.I e l val:=by
 rcases iK hl with rfl|⟨rfl,rfl⟩|⟨b,aj,bx,rfl,hb,aI,aW,iZ⟩|⟨b,aj,lo,n,bx,rfl,hb,aI,FP⟩
 ·obtain⟨cs,h1,hval⟩:=cC.1 hv;rcases h1 with ⟨⟨base,h1⟩,h2⟩|⟨blk,off,cap,h1,h2,h3,h4⟩
  ·exact .inl ⟨h2,base,0,by rw[hval,h1];rfl,oZ _,.inl rfl⟩
  ·refine .inr ⟨blk,off,cap,by rw[hval,h1];rfl,h2,h3,fun i x hx=>?_⟩;obtain⟨es,g1,g2,g3⟩:=h4 i x hx;exact⟨es,g1,fun j c hj=>(g2 j c hj).1,g3⟩
 ·obtain rfl:val=_:=by simpa [bH] using hv
  exact .inl ⟨rfl,none,0,rfl,oZ _,.inl rfl⟩
 ·obtain⟨e',n',g1,g2,g3⟩:=aJ hb aI hv.2;rw[aY.b7 g1 iZ] at g2;obtain⟨rfl,rfl⟩:=cr (ax g2);rcases g3 with ⟨g3,g4⟩|⟨blk,cap,g3,g4⟩
  ·obtain rfl:val=_:=by simpa using g4
   have gi:=hm.boxes b bx hb;rw[bQ,g1] at gi;obtain⟨e2,l2,j1,j2,j3⟩:=gi;rw[iZ] at j1;cases j1;rcases j3 with ⟨_,j4⟩|⟨_,_,_,_,_,j3,_⟩
   ·exact .inl ⟨j4,none,0,rfl,oZ _,.inl rfl⟩
   ·rw[g3] at j3;exact absurd j3 (by simp)
  ·obtain rfl:val=_:=by simpa using g4
   obtain⟨cur,tid,fr,q1,q2,q3,q4,q5,q6,q7⟩:=((hm.boxes b bx hb).row g3).1 _ l g1 iZ;refine .inr ⟨blk,0,cap,rfl,q3,q4,fun i x hx=>?_⟩;have:=qB q1 (n:=cap) (by omega) q7 q3 0 i x hx;rw[Ee] at this;exact this
 ·obtain⟨e',k,g2,g3,g4,g5,base,cap,g6,g7,g8,gF,g9⟩:=aJ hb aI hv.2;obtain rfl:val=_:=by simpa using g6
  rcases FP with ⟨aW,l0,iZ,rfl⟩|⟨aW,k0,l0,iZ,rfl⟩
  ·rw[aY.b7 aW iZ] at g2;obtain⟨rfl,rfl⟩:=cr (ax g2);have hlen:=yU g3 g4 g5;rcases g9 with g9|⟨blk,c,g9,g10⟩
   ·subst g9;exact .inl ⟨by simp[sub],base,cap,rfl,g8,gF.1⟩
   ·obtain⟨cur,tid,fr,q1,q2,q3,q4,q5,q6,q7⟩:=((hm.boxes b bx hb).row g9).1 _ l0 aW iZ;refine .inr ⟨blk,lo.toNat*e.size,cap,by rw[g10,hlen],by rw[hlen];exact g7,g8,fun i x hx=>?_⟩;have hx':((List.drop lo.toNat l0).take n.toNat)[i]?=some x:=hx;rw[lU] at hx';split at hx'
    ·exact qB q1 (n:=c) (by omega) q7 q3 lo.toNat i x hx'
    ·exact absurd hx' (by simp)
  ·rw[aY.kf aW iZ] at g2;obtain⟨rfl,rfl⟩:=cr (ax g2);rcases g9 with g9|⟨blk,c,g9,g10⟩
   ·subst g9;exact .inl ⟨by simp[sub],base,cap,rfl,g8,gF.1⟩
   ·obtain⟨cur,tid,fr,q1,q2,q3,q5,q7⟩:=((hm.boxes b bx hb).row g9).2 _ _ l0 aW iZ;have hlen:=yU (l:=l0) g3 g4 (by rw[q3];exact g5);refine .inr ⟨blk,lo.toNat*e.size,cap,by rw[g10,hlen],by rw[hlen];exact g7,g8,fun i x hx=>?_⟩;have hx':((List.drop lo.toNat l0).take n.toNat)[i]?=some x:=hx;rw[lU] at hx';split at hx'
    ·exact qB q1 (n:=k0) (by omega) q7 (by omega) lo.toNat i x hx'
    ·exact absurd hx' (by simp)
theorem zI{I:Nat→Nat→Prop}{e:Ty}{blk:Nat}:∀{l:List e.den} {off:Nat},(∀(i:Nat) (x:e.den),l[i]?=some x→∃es:List Value,es.length=e.size ∧
   (∀(j:Nat) c,es[j]?=some c→w.cell? ⟨blk,off+i*e.size+j,none⟩=some c)∧bt w I e x es) →
  ∃news:List Value,news.length=l.length*e.size∧(∀(j:Nat) c,news[j]?=some c→w.cell? ⟨blk,off+j,none⟩=some c)∧(∀c∈news,c.oneCell'=true) ∧
   ∀(i:Nat) (x:e.den),l[i]?=some x→bt w I e x ((news.drop (i*e.size)).take e.size):=by
 intro l;induction l with
 | nil=>intro off h;exact⟨[],by simp,by simp,by simp,by simp⟩
 | cons x0 r ih =>
   intro off h;obtain⟨es,g1,g2,g3⟩:=h 0 x0 rfl;obtain⟨news,k1,k2,k3,k4⟩:=ih (off:=off+e.size) fun i x hx=>by
    obtain⟨es',a1,a2,a3⟩:=h (i+1) x (by simpa using hx);refine⟨es',a1,fun j c hj=>?_,a3⟩;have:=a2 j c hj;rw[rF] at this;rw[←this];congr 2;omega
   refine⟨es++news,by rw[pM,g1,k1,kV,rF];omega,fun j c hj=>?_,fun c hc=>?_,fun i x hx=>?_⟩
   ·rw[KG] at hj;split at hj
    ·have:=g2 j c hj;simpa using this
    ·rename_i hlt;have:=k2 _ c hj;rw[←this];congr 2;omega
   ·rcases List.mem_append.1 hc with hc|hc
    ·exact g3.one c hc
    ·exact k3 c hc
   ·cases i with
    | zero =>
      obtain rfl:x0=x:=by simpa using hx
      rw[Ee,FZ,←g1,IM];exact g3
    | succ i =>
      have hx':r[i]?=some x:=by simpa using hx
      rw[rF,HS,←qm,←g1,ue,g1];exact k4 i x hx'
theorem vj(h:bZ B N γ σ a w){b:Nat}{bx:aY}{e:Ty}{n:Nat}(hb:σ.mem b=some bx)(hrow:bx.row=some (e,n))(hf:freeze σ b=some σ') :
  ∃γ',bZ B N γ' σ' a w∧Ext B γ σ.mem w γ' σ'.mem w∧γ'.loc=γ.loc∧∀blk k off,γ.loc b=some (blk,k)→off<n*e.size→γ'.I blk off:=by
 obtain⟨m1,m2⟩:=h.ok.freeze hb hrow;have e1:σ'={ slots:=σ.slots,mem:=bS σ.mem b { bx with ro:=true } }:=by
  unfold freeze at hf;rw[hb] at hf;cases hro:bx.ro with
  | true =>
    simp only[hro,jk,jU] at hf;subst hf;have:bS σ.mem b { bx with ro:=true }=σ.mem:=by
     funext c;by_cases e:c=b
     ·subst e;rw[aU,hb];congr 1;cases bx;simp only at hro;subst hro;rfl
     ·rw[aB _ e]
    rw[this]
  | false =>
    simp only[hro,gj] at hf;cases hlk:bx.lk with
    | true=>simp[hlk] at hf
    | false=>simp only[hlk,gj,jU] at hf;subst hf;rfl
 subst e1;exact⟨_,h.go m2 m1,m2,rfl,fun blk k off hl ho=>.inr ⟨⟨k,hl⟩,ho⟩⟩
theorem rT.data{γ':Gh}{e:Ty}{l:List e.den}{val:Value}(h:rT w γ.I e l val)(hI:∀b o,γ.I b o→γ'.I b o)
  (hc:∀blk off cap,val=.slice (some ⟨blk,off,none⟩) l.length cap→∀j,j<l.length*e.size→γ'.I blk (off+j)):bt w γ'.I (.slice e) l [val]:=by
 rcases h with ⟨rfl,base,cap,r1,r2,r3⟩|⟨blk,off,cap,r1,r2,r3,r4⟩
 ·rcases r3 with rfl|⟨blk,off,rfl⟩
  ·exact .inl ⟨⟨base,by rw[r1]⟩,rfl⟩
  ·exact .inr ⟨blk,off,cap,by rw[r1];rfl,oZ _,r2,fun i x hx=>by cases hx⟩
 ·refine .inr ⟨blk,off,cap,by rw[r1],r2,r3,fun i x hx=>?_⟩;obtain⟨es,g1,g2,g3⟩:=r4 i x hx;have hi:i<l.length:=(List.getElem?_eq_some_iff.1 hx).1;refine⟨es,g1,fun j c hj=>⟨g2 j c hj,?_⟩,bt.mono hI (fun _ _ _=>rfl) g3⟩;have hj':j<e.size:=by have:=(List.getElem?_eq_some_iff.1 hj).1;omega
  have:(i+1)*e.size≤l.length*e.size:=lT _ hi;rw[rF] at this;rw[wB];exact hc blk off cap r1 _ (by omega)
theorem vk(h:bZ B N γ σ a w){e:Ty}{v:ay}{val:Value}{l:List e.den}(hv:bH γ σ.mem w v .val [val])(hl:eK e σ v=some l)(hf:eT σ v=some σ') :
  ∃γ',bZ B N γ' σ' a w∧Ext B γ σ.mem w γ' σ'.mem w∧bt w γ'.I (.slice e) l [val]:=by
 have hrow:=lg h.ok hv hl;rcases iK hl with rfl|⟨rfl,rfl⟩|⟨b,aj,bx,rfl,hb,aI,aW,iZ⟩|⟨b,aj,lo,n,bx,rfl,hb,aI,FP⟩
 ·obtain rfl:=ax hf;obtain⟨cs,h1,hval⟩:=cC.1 hv;have:cs=[val]:=by
   obtain⟨c,rfl⟩:=List.length_eq_one_iff.1 h1.length;rw[hval];rfl
  exact⟨γ,h,Ext.refl _ _ _ _,by rw[←this];exact h1⟩
 ·obtain rfl:=ax hf;obtain rfl:val=_:=by simpa [bH] using hv
  exact⟨γ,h,Ext.refl _ _ _ _,.inl ⟨⟨none,rfl⟩,rfl⟩⟩
 ·obtain⟨γ',s1,s2,s3,s4⟩:=vj h hb (aY.b7 aW iZ) hf;refine⟨γ',s1,s2,hrow.data s2.I fun blk off cap hval j hj=>?_⟩;obtain⟨e',n',g1,g2,g3⟩:=aJ hb aI hv.2;rcases g3 with ⟨g3,g4⟩|⟨cB,cap',g3,g4⟩
  ·obtain rfl:val=_:=by simpa using g4
   injection hval with q1 q2 q3
   rw[←q2,Ee] at hj;omega
  ·obtain rfl:val=_:=by simpa using g4
   injection hval with q1 q2 q3
   injection q1 with q1
   injection q1 with q1 q4
   subst q1;subst q4;rw[oY];exact s4 cB cap' j g3 hj
 ·obtain⟨e',k,g2,g3,g4,g5,base,cap,g6,g7,g8,gF,g9⟩:=aJ hb aI hv.2;obtain rfl:val=_:=by simpa using g6
  have hlk:e=e'∧l.length=n.toNat:=by
   rcases FP with ⟨aW,l0,iZ,rfl⟩|⟨aW,k0,l0,iZ,rfl⟩
   ·rw[aY.b7 aW iZ] at g2;obtain⟨rfl,rfl⟩:=cr (ax g2);exact⟨rfl,yU g3 g4 g5⟩
   ·rw[aY.kf aW iZ] at g2;obtain⟨rfl,rfl⟩:=cr (ax g2);rcases g9 with g9|⟨blk,c,g9,g10⟩
    ·subst g9;exact⟨rfl,by simp[sub]⟩
    ·obtain⟨cur,tid,fr,q1,q2,q3,q5,q7⟩:=((h.ok.boxes b bx hb).row g9).2 _ _ l0 aW iZ;exact⟨rfl,yU g3 g4 (by rw[q3];exact g5)⟩
  obtain⟨rfl,hlen⟩:=hlk;obtain⟨γ',s1,s2,s3,s4⟩:=vj h hb g2 hf;refine⟨γ',s1,s2,hrow.data s2.I fun blk off cap' hval j hj=>?_⟩;rcases g9 with g9|⟨cB,c,g9,g10⟩
  ·rw[hlen,g9] at hj;simp at hj
  ·injection hval with q1 q2 q3
   rw[g10] at q1;injection q1 with q1
   injection q1 with q1 q4
   subst q1;subst q4;refine s4 cB c _ g9 ?_;have:(lo.toNat+n.toNat)*e.size≤k*e.size:=lT _ (by omega);rw[qn] at this;rw[hlen] at hj;omega
theorem tF{e:Ty}{v:ay}{l:List e.den}{b:Nat}(h:eK e σ v=some l)(hf:freeze σ b=some σ'):eK e σ' v=some l:=by
 have hm:∀c bx,σ.mem c=some bx→∃r,σ'.mem c=some { bx with ro:=r }:=by
  intro c bx hc;unfold freeze at hf;split at hf
  ·rename_i cc hb0;cases hro:cc.ro with
   | true=>simp only[hro,jk,jU] at hf;subst hf;exact⟨bx.ro,hc⟩
   | false =>
     cases hlk:cc.lk with
     | true=>simp[hro,hlk] at hf
     | false =>
       simp only[hro,hlk,gj,jU] at hf;subst hf;by_cases e:c=b
       ·subst e;rw[hb0] at hc;obtain rfl:=ax hc;exact⟨true,by simp[St.bJ,hlk]⟩
       ·exact⟨bx.ro,by simp[St.bJ,fJ e,hc]⟩
  ·cases hf
 rcases iK h with rfl|⟨rfl,rfl⟩|⟨c,aj,bx,rfl,hb,aI,aW,iZ⟩|⟨c,aj,lo,n,bx,rfl,hb,aI,FP⟩
 ·exact h
 ·rfl
 ·obtain⟨r,hr⟩:=hm c bx hb;simp only[eK,hr,aI,aW,iZ,CI,Bool.and_self,jk];simp[toL,Ty.beq_refl]
 ·obtain⟨r,hr⟩:=hm c bx hb;rcases FP with ⟨aW,l0,iZ,rfl⟩|⟨aW,k0,l0,iZ,rfl⟩
  ·simp only[eK,hr,aI,aW,iZ,CI,jk];simp[toL,Ty.beq_refl]
  ·simp only[eK,hr,aI,aW,iZ,CI,jk];simp[toL,Ty.beq_refl]
theorem vl{s r:Ty}{p q:ay}{x:(Ty.pair s r).den}(h:kR σ (.pair s r) (.mix p q)=some x):∃(y:s.den) (z:r.den),kR σ s p=some y∧kR σ r q=some z∧x=(y,z):=by
 replace h:(match kR σ s p,kR σ r q with
  | some x,some y=>some ((x,y):(Ty.pair s r).den)
  | _,_=>none)=some x:=h
 split at h
 ·rename_i y z h1 h2;exact⟨y,z,h1,h2,(ax h).symm⟩
 ·exact absurd h (by simp)
theorem B9{s r:Ty}{p q:ay}{y:s.den}{z:r.den}(h1:kR σ s p=some y)(h2:kR σ r q=some z):kR σ (.pair s r) (.mix p q)=some ((y,z):(Ty.pair s r).den):=by
 show(match kR σ s p,kR σ r q with
  | some x,some y=>some ((x,y):(Ty.pair s r).den)
  | _,_=>none)=some (y,z)
 rw[h1,h2]
theorem oD{p q:ay}(h:eT σ (.mix p q)=some σ'):∃σ1,eT σ p=some σ1∧eT σ1 q=some σ':=by
 unfold eT at h;split at h
 ·rename_i σ1 h1;exact⟨σ1,h1,h⟩
 ·exact absurd h (by simp)
theorem jO{t:Ty}:∀{x:t.den},kR σ t .lV=some x→(∀w I,bt w I t x [.nilIface])∧(∀τ:St,kR τ t .lV=some x)∧bO t [.nilIface]=.nilIface∧t.isAgg=false:=by
 induction t with
 | alt u a r gy ihr =>
   intro x h;have h:(match kR σ r .lV with|some x=>some (Sum.inr x)|none=>none:Option (a.den⊕r.den))=some x:=h;cases hr:kR σ r .lV with
   | none=>rw[hr] at h;cases h
   | some y =>
     rw[hr] at h;obtain rfl:=ax h;obtain⟨h1,h2,h3,h4⟩:=ihr hr;refine⟨fun w I=>h1 w I,fun τ=>?_,h3,h4⟩;show(match kR τ r .lV with|some x=>some (Sum.inr x)|none=>none:Option (a.den⊕r.den))=_
     rw[h2 τ];rfl
 | td=>intro x h;obtain rfl:()=x:=ax h;exact⟨fun w I=>rfl,fun τ=>rfl,rfl,rfl⟩
 | slice e=>intro x h;cases h
 | pair a b=>intro x h;cases h
 | _=>intro x h;cases h
theorem Ez:∀{v:ay} {t:Ty} {x:t.den} {σ σ':St} {u:ay},kR σ t v=some x→eT σ u=some σ'→kR σ' t v=some x:=by
 have one:∀{u:ay} {e:Ty} {v:ay} {l:List e.den} {σ σ':St},eK e σ v=some l→eT σ u=some σ'→eK e σ' v=some l:=by
  intro u;induction u with
  | mix p q pY pg =>
    intro e v l σ σ' h hf;simp only[eT] at hf;cases hp:eT σ p with
    | none=>rw[hp] at hf;cases hf
    | some σ1=>rw[hp] at hf;exact pg (pY h hp) hf
  | whole b aj=>intro e v l σ σ' h hf;exact tF h hf
  | part b aj lo n=>intro e v l σ σ' h hf;exact tF h hf
  | _=>intro e v l σ σ' h hf;obtain rfl:=ax hf;exact h
 intro v;induction v with
 | data u y =>
   intro t x σ σ' u h hf;cases t with
   | slice e=>exact one h hf
   | _=>exact h
 | mix p q pY pg =>
   intro t x σ σ' u h hf;cases t with
   | pair s r =>
     obtain⟨y,z,h1,h2,rfl⟩:=vl h;exact B9 (pY h1 hf) (pg h2 hf)
   | slice e=>exact one h hf
   | _=>cases h
 | lV=>intro t x σ σ' u h hf;exact(jO h).2.1 _
 | _ =>
   intro t x σ σ' u h hf;cases t with
   | slice e=>exact one h hf
   | _=>cases h
theorem xH{γ:Gh}{mem:Nat→Option aY}{v:ay}{cs:List Value}(h:bH γ mem w v .cells cs)(h1:bY v=1):∃c,cs=[c]:=by
 have:=h.length;rw[h1] at this;exact List.length_eq_one_iff.1 this
theorem Gi:∀{v:ay} {t:Ty} {x:t.den} {cs:List Value} {σ σ':St} {γ:Gh} {a:Act},bZ B N γ σ a w→bH γ σ.mem w v .cells cs→kR σ t v=some x→eT σ v=some σ' →
  ∃γ',bZ B N γ' σ' a w∧Ext B γ σ.mem w γ' σ'.mem w∧bt w γ'.I t x cs:=by
 have sl:∀{v:ay} {e:Ty} {l:List e.den} {cs:List Value} {σ σ':St} {γ:Gh} {a:Act},bY v=1→(∀c,bH γ σ.mem w v .cells [c]→bH γ σ.mem w v .val [c])→bZ B N γ σ a w→bH γ σ.mem w v .cells cs→eK e σ v=some l→eT σ v=some σ' →
   ∃γ',bZ B N γ' σ' a w∧Ext B γ σ.mem w γ' σ'.mem w∧bt w γ'.I (.slice e) l cs:=by
  intro v e l cs σ σ' γ a h1 hval h hc hl hf;obtain⟨c,rfl⟩:=xH hc h1;exact vk h (hval c hc) hl hf
 intro v;induction v with
 | data u y =>
   intro t x cs σ σ' γ a h hc hl hf;obtain rfl:=ax hf;have key:(∃q:u=t,x=q▸y):=by
    cases t with
    | slice e =>
      rcases iK (show eK e σ (.data u y)=some x from hl) with g|⟨g,_⟩|⟨_,_,_,g,_⟩|⟨_,_,_,_,_,g,_⟩
      ·injection g with g1 g2;subst g1;exact⟨rfl,(eq_of_heq g2).symm⟩
      ·cases g
      ·cases g
      ·cases g
    | _=>exact Ty.gL hl
   obtain⟨q,hq⟩:=key;subst q;subst hq;exact⟨γ,h,Ext.refl _ _ _ _,hc⟩
 | mix p q pY pg =>
   intro t x cs σ σ' γ a h hc hl hf;cases t with
   | pair s r =>
     obtain⟨c1,c2,rfl,h1,h2⟩:=hc;obtain⟨y,z,hp,hq,rfl⟩:=vl hl;obtain⟨σ1,Kg,Ub⟩:=oD hf;obtain⟨ff,s1,s2,s3⟩:=pY h h1 hp Kg;obtain⟨tG,t1,t2,t3⟩:=pg s1 (h2.ext s2) (Ez hq Kg) Ub;exact⟨tG,t1,s2.trans t2,c1,c2,rfl,bt.mono t2.I t2.cells s3,t3⟩
   | slice e=>exact absurd hl (by intro k;cases k)
   | _=>cases hl
 | js =>
   intro t x cs σ σ' γ a h hc hl hf;cases t with
   | slice e=>exact sl (v:=.js) rfl (fun c k=>k) h hc hl hf
   | _=>cases hl
 | whole b aj =>
   intro t x cs σ σ' γ a h hc hl hf;cases t with
   | slice e=>exact sl (v:=.whole b aj) rfl (fun c k=>k) h hc hl hf
   | _=>cases hl
 | part b aj lo n =>
   intro t x cs σ σ' γ a h hc hl hf;cases t with
   | slice e=>exact sl (v:=.part b aj lo n) rfl (fun c k=>k) h hc hl hf
   | _=>cases hl
 | lV =>
   intro t x cs σ σ' γ a h hc hl hf;obtain rfl:=ax hf;obtain rfl:cs=[.nilIface]:=hc;exact⟨γ,h,Ext.refl ..,(jO hl).1 _ _⟩
 | _ =>
   intro t x cs σ σ' γ a h hc hl hf;cases t with
   | slice e=>exact absurd hl (by intro k;cases k)
   | _=>cases hl
theorem iL{t:Ty}{x:t.den}{v:ay}{val:Value}(h:bZ B N γ σ a w)(hv:bH γ σ.mem w v .val [val])(hg:pP σ t v=some (x,σ')) :
  ∃γ',bZ B N γ' σ' a w∧Ext B γ σ.mem w γ' σ'.mem w∧bH γ' σ'.mem w (.data t x) .val [val]:=by
 unfold pP at hg;split at hg
 ·rename_i u y;split at hg
  ·rename_i y2 hy;obtain⟨rfl,rfl⟩:=cr (ax hg);obtain⟨q,hq⟩:=Ty.gL hy;subst q;subst hq;exact⟨γ,h,Ext.refl _ _ _ _,hv⟩
  ·cases hg
 ·split at hg
  ·rename_i y σ1 hl hf;obtain⟨rfl,rfl⟩:=cr (ax hg);cases v with
   | data u y'=>rename_i hne;exact absurd rfl (hne u y')
   | mix p q =>
     obtain⟨c1,c2,e1,h1,h2⟩:=hv;obtain rfl:val=_:=by simpa using e1
     obtain⟨γ',s1,s2,s3⟩:=Gi h (show bH γ σ.mem w (.mix p q) .cells (c1++c2) from⟨c1,c2,rfl,h1,h2⟩) hl hf;refine⟨γ',s1,s2,_,s3,?_⟩;cases t with
     | pair s r=>rfl
     | slice e=>exact absurd hl (by intro k;cases k)
     | _=>cases hl
   | js =>
     cases t with
     | slice e=>obtain⟨γ',s1,s2,s3⟩:=vk h hv hl hf;exact⟨γ',s1,s2,_,s3,rfl⟩
     | _=>cases hl
   | whole b aj =>
     cases t with
     | slice e=>obtain⟨γ',s1,s2,s3⟩:=vk h hv hl hf;exact⟨γ',s1,s2,_,s3,rfl⟩
     | _=>cases hl
   | part b aj lo n =>
     cases t with
     | slice e=>obtain⟨γ',s1,s2,s3⟩:=vk h hv hl hf;exact⟨γ',s1,s2,_,s3,rfl⟩
     | _=>cases hl
   | lV =>
     obtain rfl:=ax hf;obtain hv:[val]=[Value.nilIface]:=hv;obtain rfl:val=.nilIface:=by simpa using hv
     exact⟨γ,h,Ext.refl ..,[.nilIface],(jO hl).1 _ _,by rw[(jO hl).2.2.1]⟩
   | _ =>
     cases t with
     | slice e=>exact absurd hl (by intro k;cases k)
     | _=>cases hl
  ·cases hg
end
end Go.Ge
