/- A ghost interpreter of the model's code, and that it tells the truth: part 3. It says of a function of plain data what a call of it comes to. -/
import Derived.Test.YtefacgohfjccgaaGreatDoorGeB
set_option linter.unusedVariables false
set_option linter.unusedSimpArgs false
set_option linter.unusedSectionVars false
namespace Go.Ge
open RowKit
section
variable {P:Program} {B:tJ} {N:Nat} {γ:Gh} {σ σ':St} {a:Act} {w:World} {d:Option Nat} {cx:Ctx}
theorem J5{s:TypeId}{fs:Array Field}{k:Nat}{f:Field}{u:Ty}(hs:P.underlying s=some (.struct fs))(hf:fs.toList[k]?=some f)(hu:Den P u f.type)(h0:0<u.size)(blk off:Nat) :
  (Instr.fieldAt s (.pointer (some ⟨blk,off,none⟩)) k).run P w=.ok (.pointer (some ⟨blk,off+f.offset,none⟩)) w:=by
 have hf':fs[k]?=some f:=by simpa using hf
 have hz:¬(u.size=0):=by omega
 simp only[Instr.fieldAt,Sem.run_bind,run_underlying hs,Result.andThen_ok,hf',Instr.sureAddr,Sem.run_pure,fieldPlace,hu.sizeOf w,br hz,addr_add]
theorem R7{s:TypeId}{fs:Array Field}{k:Nat}{f:Field}{i:TypeInfo}(hs:P.underlying s=some (.struct fs))(hf:fs.toList[k]?=some f)(hi:P.info? f.type=some i)(h0:0<i.size)(blk off:Nat) :
  (Instr.fieldAt s (.pointer (some ⟨blk,off,none⟩)) k).run P w=.ok (.pointer (some ⟨blk,off+f.offset,none⟩)) w:=by
 have hf':fs[k]?=some f:=by simpa using hf
 have hz:¬(i.size=0):=by omega
 have hsz:(Go.sizeOf f.type).run P w=.ok i.size w:=by simp[Go.sizeOf,typeInfo,hi]
 simp only[Instr.fieldAt,Sem.run_bind,run_underlying hs,Result.andThen_ok,hf',Instr.sureAddr,Sem.run_pure,fieldPlace,hsz,br hz,addr_add]
theorem FV{t:Ty}{s:TypeId}(ht:Den P t s){k:Nat}{u:Ty}{o:Nat}(hu:xg t k=some u)(ho:kg t k=some o) :
  ∃(fs:Array Field) (f:Field),P.underlying s=some (.struct fs)∧fs.toList[k]?=some f∧f.offset=o∧Den P u f.type∧0<u.size:=by
 cases t with
 | pair a b =>
   obtain⟨fs,h1,h2,_⟩:=ht.pair;obtain⟨f,k1,k2,k3,k4⟩:=h2.at hu ho;exact⟨fs,f,h1,k1,by omega,k3,k4⟩
 | _=>cases k<;>cases hu
theorem EM(hc:gA P cx){s:TypeId}{x:Operand}{k:Nat}(h:dB B N γ σ a w)(hd:∀k,d=some k→k<N)(hr:(fF cx d s (cL σ x) k σ).run=some σ') :
  p6 P B N γ σ a w d (Instr.fieldAt s (a.eval x) k) σ':=by
 have hv:=h.cL x;unfold fF at hr;split at hr
 ·rename_i u y hx;rw[hx] at hv;obtain⟨hb,hr2⟩:=aD hr;have ht:=hc.T _ _ (jG hb);split at hr2
  ·rename_i o t z hf;obtain rfl:=aN hr2;obtain⟨blk,off,cs,h1,h2,h3⟩:=hv;obtain h1:a.eval x=_:=by simpa using h1
   obtain⟨t',z',e1,e2,e3,e4,e5⟩:=FU (w:=w) h2 (show qX u y k=some (o,.data t z) from hf);cases e1;obtain⟨fs,f,g1,g2,g3,g4,g5⟩:=FV ht e2 e3;refine bU h hd (by rw[h1];exact J5 g1 g2 g4 g5 blk off) ⟨blk,off+f.offset,(cs.drop o).take t.size,rfl,e5,fun j v hj=>?_⟩;rw[gN] at hj;split at hj
   ·rw[nW] at hj;have:=h3 _ v hj;rw[g3,A9];exact this
   ·cases hj
  ·cases hr2
 ·rename_i b aC p hx;rw[hx] at hv;obtain⟨hb,hr2⟩:=aD hr;obtain⟨bx,tK,bF⟩:=kV hb;split at hr2
  ·rename_i t hT;split at hr2
   ·rename_i off u ho hu;obtain rfl:=aN hr2;obtain⟨blk,cap,hl,hval⟩:=bC tK bF hv.2;obtain hval:a.eval x=_:=by simpa using hval
    obtain⟨fs,f,g1,g2,g3,g4,g5⟩:=FV (hc.T _ _ hT) hu ho;refine bU h hd (by rw[hval];exact J5 g1 g2 g4 g5 blk (cP p)) ⟨⟨_,rfl,rfl⟩,bx,tK,by omega,fun _=>⟨blk,cap,hl,?_⟩⟩;rw[CQ,g3];simp[cP]
   ·cases hr2
  ·split at hr2
   ·rename_i fs hO;split at hr2
    ·rename_i off ho;obtain rfl:=aN hr2;obtain⟨blk,cap,hl,hval⟩:=bC tK bF hv.2;obtain hval:a.eval x=_:=by simpa using hval
     obtain⟨gs,f,i,g1,g2,g3,g4,g5⟩:=afX (hc.wu _ _ hO) ho;refine bU h hd (by rw[hval];exact R7 g1 g2 g4 g5 blk (cP p)) ⟨⟨_,rfl,rfl⟩,bx,tK,by omega,fun _=>⟨blk,cap,hl,?_⟩⟩;rw[CQ,g3];simp[cP]
    ·cases hr2
   ·cases hr2
 ·cases hr
theorem Us(hc:gA P cx){xt:TypeId}{k o:Nat}{u:Ty}{y:u.den}{v:aS}{val:Value}(hu:find cx.T xt=some u)(hv:cI γ σ.mem w (.data u y) .val [val])(hf:n7 (.data u y) k=some (o,v)) :
  ∃z,(Instr.field xt val k).run P w=.ok z w∧cI γ σ.mem w v .val [z]:=by
 have ht:=hc.T _ _ hu;obtain⟨cs,h1,rfl⟩:=eu.1 hv;obtain⟨t',z',rfl,e2,e3,e4,e5⟩:=FU (w:=w) h1 hf;obtain⟨fs,f,g1,g2,g3,g4,g5⟩:=FV ht e2 e3;have alE:u.isAgg=true:=by cases u<;>first|rfl|(cases k<;>cases e2)
 refine⟨cM t' ((cs.drop o).take t'.size),?_,⟨_,e5,rfl⟩⟩;have hf':fs[k]?=some f:=by simpa using g2
 have hp:=Ea (P:=P) (w:=w) g4 (cs:=cs.toArray) (off:=f.offset) (by rw[g3];simpa using e4) vf;simp only[cM,alE,gp,Instr.field,Sem.run_bind,run_underlying g1,Result.andThen_ok,hf',asAgg,Sem.run_pure,hp];rw[g3]
theorem oa{t gd:TypeId}{sz:Nat}(ht:P.underlying t=some (.slice gd))(hs:(Go.sizeOf gd).run P w=.ok sz w)(blk off len cap:Nat)(k:IntKind){i:Int}(h0:0≤i)(h1:i<len) :
  (Instr.indexAt t (.slice (some ⟨blk,off,none⟩) len cap) (.int k i)).run P w=.ok (.pointer (some ⟨blk,off+i.toNat*sz,none⟩)) w:=by
 simp only[Instr.indexAt,asIntOf,Sem.run_bind,Sem.run_pure,Result.andThen_ok,run_underlying ht,Ms,h0,h1,nZ,hs,addr_add]
theorem Cd{t gd:TypeId}{sz n:Nat}(ht:P.underlying t=some (.array n gd))(hs:(Go.sizeOf gd).run P w=.ok sz w)(blk off:Nat)(k:IntKind){i:Int}(h0:0≤i)(h1:i<n) :
  (Instr.indexAt t (.pointer (some ⟨blk,off,none⟩)) (.int k i)).run P w=.ok (.pointer (some ⟨blk,off+i.toNat*sz,none⟩)) w:=by
 simp only[Instr.indexAt,asIntOf,Sem.run_bind,Sem.run_pure,Result.andThen_ok,run_underlying ht,Instr.sureAddr,Ms,h0,h1,nZ,hs,addr_add]
theorem CR{i n:Int}(h:within i n=true):0≤i∧i<n:=by
 simp only[within,dW,nY] at h;exact h
theorem jQ{i j n:Int}(h:inside i j n=true):0≤i∧i≤j∧j≤n:=by
 simp only[inside,dW,nY] at h;exact⟨h.1.1,h.1.2,h.2⟩
theorem GZ{b aC:Nat}{e:Ty}{n:Int}(h:Bb σ b aC=some (e,n)):∃(bx:Box) (k:Nat),σ.mem b=some bx∧bx.aC=aC∧bx.row=some (e,k)∧n=k:=by
 unfold Bb at h;split at h
 ·rename_i bx hb;cases bF:Nat.beq bx.aC aC with
  | false=>rw[bF] at h;cases h
  | true =>
    rw[bF] at h;simp only[gp] at h;split at h
    ·rename_i e' l bO hval;obtain⟨rfl,rfl⟩:=e9 (aN h);exact⟨bx,_,hb,gz bF,by rw[Box.row,bO,hval],rfl⟩
    ·rename_i n' e' l bO hval;obtain⟨rfl,rfl⟩:=e9 (aN h);exact⟨bx,_,hb,gz bF,by rw[Box.row,bO,hval],rfl⟩
    ·cases h
 ·cases h
theorem Box.dZ{bx:Box}{e:Ty}{l:List e.den}(hb:bx.buf=true)(hv:bx.val=.data (.slice e) l):bx.row=some (e,l.length):=by rw[Box.row,hb,hv]
theorem Box.si{bx:Box}{e:Ty}{n:Nat}{l:(Ty.arr n e).den}(hb:bx.buf=false)(hv:bx.val=.data (.arr n e) l):bx.row=some (e,n):=by rw[Box.row,hb,hv]
theorem Bk(hc:gA P cx){t e:Nat}(h:QH cx t=some e):P.underlying t=some (.slice e)∧dD cx.u9 e=true:=by
 unfold QH at h;split at h
 ·cases h
 ·split at h
  ·rename_i u hu;cases hm:dD cx.u9 u with
   | false=>rw[hm] at h;cases h
   | true =>
     rw[hm] at h;obtain rfl:=aN h;exact⟨hc.els _ _ hu,hm⟩
  ·cases h
theorem W0{b aC:Nat}{i:Int}:∀{m k:Nat},(My d b aC σ i m k).run=some σ'→∃j:Nat,k≤j∧j<k+m∧i=j∧σ'=σ.aW d (.ptr b aC [.gG j j]):=by
 intro m;induction m with
 | zero=>intro k hr;cases hr
 | succ m ih =>
   intro k hr;have hn:=gP hr;cases hi:bI i k with
   | true =>
     rw[hi] at hn;obtain rfl:=aN hn;exact⟨k,cU _,by omega,by simpa [bI] using hi,rfl⟩
   | false =>
     rw[hi] at hn;obtain⟨j,h1,h2,h3,h4⟩:=ih hn;exact⟨j,by omega,by omega,h3,h4⟩
theorem J6{q:List FP}(h:LS q=true):cP q=0:=by
 unfold LS at h;split at h
 ·simp[cP,gz h]
 ·cases h
theorem wg(hc:gA P cx){ty:TypeId}{x:Operand}{ki:IntKind}{i:Int}(h:dB B N γ σ a w)(hd:∀k,d=some k→k<N)(hr:(eR cx d ty (cL σ x) i σ).run=some σ') :
  p6 P B N γ σ a w d (Instr.indexAt ty (a.eval x) (.int ki i)) σ':=by
 have hv:=h.cL x;unfold eR at hr;split at hr
 ·rename_i u e l hT hx;rw[hx] at hv;obtain⟨hb,hr2⟩:=aD hr;obtain rfl:=Ty.eq_of_beq hb;obtain⟨y,hy,jP⟩:=cl hr2;obtain rfl:=aN jP;obtain⟨h0,hy2⟩:=va hy;obtain⟨gd,k1,k2,k3,k4⟩:=(hc.T _ _ hT).slice;obtain⟨cs,h1,hval⟩:=eu.1 hv;have hi:i.toNat<List.length (α:=u.den) l:=(List.getElem?_eq_some_iff.1 hy2).1;rcases h1 with ⟨_,h1⟩|⟨blk,off,cap,h1,h2,h3,h4⟩
  ·exfalso;have:List.length (α:=u.den) l=0:=by rw[show l=([]:List u.den) from h1];rfl
   omega
  ·rw[h1] at hval;have J4:a.eval x=.slice (some ⟨blk,off,none⟩) (List.length (α:=u.den) l) cap:=hval;obtain⟨es,g1,g2,g3⟩:=h4 _ y hy2;refine bU h hd (by rw[J4];exact oa k1 (k2.sizeOf w) blk off _ cap ki h0 (by omega)) ⟨blk,off+i.toNat*u.size,es,rfl,g3,fun j v hj=>?_⟩;exact g2 j v hj
 ·rename_i m u n e l hT hx;rw[hx] at hv;obtain⟨hb,hr2⟩:=aD hr;simp only[dW] at hb;obtain rfl:=Ty.eq_of_beq hb.1;obtain rfl:=gz hb.2;obtain⟨y,hy,jP⟩:=cl hr2;obtain rfl:=aN jP;obtain⟨h0,hy2⟩:=va hy;obtain⟨gd,k1,k2,k3⟩:=(hc.T _ _ hT).arr;obtain⟨blk,off,cs,h1,h2,h3⟩:=hv;obtain h1:a.eval x=_:=by simpa using h1
  have hi:i.toNat<m:=by have:=(List.getElem?_eq_some_iff.1 hy2).1;have:=h2.1;omega
  have oV:=h2.2.2 _ y hy2;refine bU h hd (by rw[h1];exact Cd k1 (k2.sizeOf w) blk off ki h0 (by omega)) ⟨blk,off+i.toNat*u.size,_,rfl,oV,fun j v hj=>?_⟩;rw[gN] at hj;split at hj
  ·rw[nW] at hj;have:=h3 _ v hj;rw[A9];exact this
  ·cases hj
 ·rename_i u b aC hT hx;rw[hx] at hv;split at hr
  ·rename_i e n he;obtain⟨hb,hr2⟩:=aD hr;obtain rfl:=Ty.eq_of_beq hb;obtain⟨hw,jP⟩:=cF hr2;obtain rfl:=aN jP;obtain⟨h0,h1⟩:=CR hw;obtain⟨bx,k,tK,bF,hrow,rfl⟩:=GZ he;obtain⟨gd,k1,k2,k3,k4⟩:=(hc.T _ _ hT).slice;obtain⟨e',n',g1,g2,g3⟩:=bC tK bF hv.2;rw[hrow] at g2;obtain⟨rfl,rfl⟩:=e9 (aN g2);rcases g3 with ⟨g3,g4⟩|⟨blk,cap,g3,g4⟩
   ·exfalso;have jt:=h.ok.boxes b bx tK;rw[cR,g1] at jt;obtain⟨e2,l,j1,j2,j3⟩:=jt;rcases j3 with ⟨_,j4⟩|⟨_,_,_,_,_,j3,_⟩
    ·rw[Box.dZ g1 j1,j4] at hrow;have:0=k:=by
      have:=(e9 (aN hrow)).2;simpa using this
     omega
    ·rw[g3] at j3;cases j3
   ·obtain g4:a.eval x=_:=by simpa using g4
    refine bU h hd (by rw[g4];exact oa k1 (k2.sizeOf w) blk 0 _ cap ki h0 h1) ⟨⟨_,rfl,rfl⟩,bx,tK,by omega,fun _=>⟨blk,cap,g3,by simp[cP]⟩⟩
  ·cases hr
 ·rename_i u b aC lo n hT hx;rw[hx] at hv;split at hr
  ·rename_i e n2 he;obtain⟨hb,hr2⟩:=aD hr;obtain rfl:=Ty.eq_of_beq hb;obtain⟨hw,jP⟩:=cF hr2;obtain rfl:=aN jP;obtain⟨h0,h1⟩:=CR hw;obtain⟨bx,k,tK,bF,hrow,rfl⟩:=GZ he;obtain⟨gd,k1,k2,k3,k4⟩:=(hc.T _ _ hT).slice;obtain⟨e',n',g2,g3,g4,g5,base,cap,g6,g7,g8,gF,g9⟩:=bC tK bF hv.2;rw[hrow] at g2;obtain⟨rfl,rfl⟩:=e9 (aN g2);rcases g9 with g9|⟨blk,c,g9,g10⟩
   ·omega
   ·obtain g6:a.eval x=_:=by simpa using g6
    refine bU h hd (by rw[g6,g10];exact oa k1 (k2.sizeOf w) blk _ _ cap ki h0 (by omega)) ⟨⟨_,rfl,rfl⟩,bx,tK,by omega,fun _=>⟨blk,c,g9,?_⟩⟩;have:(plus lo i).toNat=lo.toNat+i.toNat:=by simp only[plus];omega
    simp only[cP,this,iw,An]
  ·cases hr
 ·rename_i m u b aC p hT hx;rw[hx] at hv;obtain⟨hb,hr2⟩:=aD hr;obtain⟨bx,tK,bF⟩:=kV hb;obtain⟨hw,jP⟩:=cF hr2;obtain rfl:=aN jP;obtain⟨h0,h1⟩:=CR hw;obtain⟨gd,k1,k2,k3⟩:=(hc.T _ _ hT).arr;obtain⟨blk,cap,hl,hval⟩:=bC tK bF hv.2;obtain hval:a.eval x=_:=by simpa using hval
  refine bU h hd (by rw[hval];exact Cd k1 (k2.sizeOf w) blk _ ki h0 h1) ⟨⟨_,rfl,rfl⟩,bx,tK,by omega,fun _=>⟨blk,cap,hl,?_⟩⟩;rw[CQ];simp[cP]
 ·rename_i b aC q e0 k0 lo n hT hx;rw[hx] at hv;split at hr
  ·rename_i e he;obtain⟨hb,hr2⟩:=aD hr;simp only[dW,nY] at hb;obtain⟨⟨hq,rfl⟩,hl⟩:=hb;obtain⟨bx,tK,bF⟩:=kV hl;obtain⟨k1,k2⟩:=Bk hc he;obtain⟨j,_,hj,rfl,rfl⟩:=W0 hr2;obtain⟨_,blk,c,g1,g2,g3,g4,base,cap,g5,g6,g7⟩:=bC tK bF hv.2;obtain g5:a.eval x=_:=by simpa using g5
   rcases g7 with g7|g7
   ·subst g7;simp at hj
   ·rw[J6 hq] at g7;have hj':((j:Nat):Int)<(n.toNat:Int):=by omega
    refine bU h hd (by rw[g5,g7];exact oa k1 ((hc.u9 _ k2).2.1 w) blk _ _ cap ki (by omega) hj') ⟨⟨_,rfl,rfl⟩,bx,tK,by omega,fun _=>⟨blk,c,g1,?_⟩⟩;simp[cP]
  ·cases hr
 ·cases hr
theorem K3(hc:gA P cx){ty:TypeId}{x:Operand}{ki:IntKind}{i:Int}(h:dB B N γ σ a w)(hd:∀k,d=some k→k<N)(hr:(mR cx d ty (cL σ x) i σ).run=some σ') :
  p6 P B N γ σ a w d (Instr.indexAt ty (a.eval x) (.int ki i)) σ':=by
 have hv:=h.cL x;unfold mR at hr;split at hr
 ·rename_i b aC q e0 k0 lo n e hx he;rw[hx] at hv;obtain⟨hb,hr2⟩:=aD hr;simp only[dW,nY] at hb;obtain⟨⟨hq,rfl⟩,hl⟩:=hb;obtain⟨bx,tK,bF⟩:=kV hl;obtain⟨k1,k2⟩:=Bk hc he;split at hr2
  ·rename_i j;obtain⟨hj,jP⟩:=aD hr2;obtain rfl:=aN jP;have hj:=ic hj;obtain⟨_,blk,c,g1,g2,g3,g4,base,cap,g5,g6,g7⟩:=bC tK bF hv.2;obtain g5:a.eval x=_:=by simpa using g5
   rcases g7 with g7|g7
   ·subst g7;omega
   ·rw[J6 hq] at g7;have hj':((j:Nat):Int)<(n.toNat:Int):=by omega
    show p6 P B N γ σ a w d (Instr.indexAt ty (a.eval x) (.int ki (j:Int))) _
    refine bU h hd (by rw[g5,g7];exact oa k1 ((hc.u9 _ k2).2.1 w) blk _ _ cap ki (by omega) hj') ⟨⟨_,rfl,rfl⟩,bx,tK,by omega,fun _=>⟨blk,c,g1,?_⟩⟩;simp[cP]
  ·cases hr2
 ·exact wg hc h hd hr
theorem u8_in(b:UInt8):IntKind.u8.min≤u8 b∧u8 b≤IntKind.u8.max:=by
 have:=b.toNat_lt;have h1:IntKind.u8.min=0:=by decide
 have h2:IntKind.u8.max=255:=by decide
 simp only[u8,h1,h2];omega
theorem K4(hc:gA P cx){ty:TypeId}{x:Operand}{ki:IntKind}{i:Int}(h:dB B N γ σ a w)(hd:∀k,d=some k→k<N)(hr:(mS cx d ty (cL σ x) i σ).run=some σ') :
  p6 P B N γ σ a w d (Instr.index ty (a.eval x) (.int ki i)) σ':=by
 have hv:=h.cL x;unfold mS at hr;split at hr
 ·rename_i s hT hx;rw[hx] at hv;obtain⟨b,hy,jP⟩:=cl hr;obtain rfl:=aN jP;obtain⟨h0,hy2⟩:=va hy;obtain⟨hval,hl⟩:=zD hv;refine bU h hd (x:=.int .u8 (u8 b)) ?_ (mkInt (u8_in b));rw[hval];have hu:=(hc.T _ _ hT).str;have hg:(⟨List.toArray (show List UInt8 from s)⟩:ByteArray)[i.toNat]?=some b:=by
   have:=(List.getElem?_eq_some_iff.1 hy2);obtain⟨q1,q2⟩:=this;have hsz:i.toNat<(⟨List.toArray (show List UInt8 from s)⟩:ByteArray).size:=q1;rw[getElem?_pos (⟨List.toArray (show List UInt8 from s)⟩:ByteArray) i.toNat hsz];exact congrArg some q2
  simp only[Instr.index,asIntOf,Sem.run_bind,Sem.run_pure,Result.andThen_ok,run_underlying hu,h0,nZ,hg];rfl
 ·rename_i m u n e l hT hx;rw[hx] at hv;obtain⟨hb,hr2⟩:=aD hr;simp only[dW] at hb;obtain rfl:=Ty.eq_of_beq hb.1;obtain rfl:=gz hb.2;obtain⟨y,hy,jP⟩:=cl hr2;obtain rfl:=aN jP;obtain⟨h0,hy2⟩:=va hy;obtain⟨gd,k1,k2,k3⟩:=(hc.T _ _ hT).arr;obtain⟨cs,h2,hval⟩:=eu.1 hv;have hi:i.toNat<m:=by have:=(List.getElem?_eq_some_iff.1 hy2).1;have:=h2.1;omega
  have oV:=h2.2.2 _ y hy2;have hm:(i.toNat+1)*u.size≤m*u.size:=gM _ hi;rw[CF] at hm;have hcl:=h2.2.1;have hp:=Ea (P:=P) (w:=w) k2 (cs:=cs.toArray) (off:=i.toNat*u.size) (by simp;omega) vf;refine bU h hd (x:=cM u ((cs.drop (i.toNat*u.size)).take u.size)) ?_ ⟨_,oV,rfl⟩;have hi':i<(m:Int):=by omega
  rw[hval];show(Instr.index ty (.agg cs.toArray) (.int ki i)).run P w=_
  simp only[Instr.index,asIntOf,Sem.run_bind,Sem.run_pure,Result.andThen_ok,run_underlying k1,h0,hi',Ms,nZ,k2.sizeOf w,hp]
 ·cases hr
theorem sb0(isSlice:Bool)(len cap:Nat):(Instr.sliceBounds isSlice len cap none none none).run P w=.ok (0,len,cap) w:=by simp[Instr.sliceBounds]
theorem sbh(isSlice:Bool)(len cap:Nat)(k:IntKind){y:Int}(h0:0≤y)(h1:y≤cap):(Instr.sliceBounds isSlice len cap none (some (.int k y)) none).run P w=.ok (0,y.toNat,cap) w:=by
 have c1:(0:Int)≤y∧y≤(cap:Int):=⟨h0,h1⟩;simp only[Instr.sliceBounds,Instr.sliceBound,asIntOf,Sem.run_bind,Sem.run_pure,Result.andThen_ok,c1,Ms,nZ]
theorem sbl(isSlice:Bool)(len cap:Nat)(k:IntKind){y:Int}(h0:0≤y)(h1:y≤len):(Instr.sliceBounds isSlice len cap (some (.int k y)) none none).run P w=.ok (y.toNat,len,cap) w:=by
 have c1:(0:Int)≤y∧y≤(len:Int):=⟨h0,h1⟩;simp only[Instr.sliceBounds,Instr.sliceBound,asIntOf,Sem.run_bind,Sem.run_pure,Result.andThen_ok,c1,Ms,nZ]
theorem alF(isSlice:Bool)(len cap:Nat)(k k2:IntKind){y y2:Int}(h0:0≤y)(h1:y≤y2)(h2:y2≤cap):(Instr.sliceBounds isSlice len cap (some (.int k y)) (some (.int k2 y2)) none).run P w=.ok (y.toNat,y2.toNat,cap) w:=by
 have c1:(0:Int)≤y2∧y2≤(cap:Int):=⟨by omega,h2⟩;have c2:(0:Int)≤y∧y≤((y2.toNat:Nat):Int):=⟨h0,by omega⟩;simp only[Instr.sliceBounds,Instr.sliceBound,asIntOf,Sem.run_bind,Sem.run_pure,Result.andThen_ok,c1,Ms,nZ];simp only[c2,Ms,nZ,Sem.run_pure,Result.andThen_ok]
theorem qY{lo hi:Option Operand}{n:Int}{i j:Int}(h:dB B N γ σ a w)(hb:bounds σ n lo hi=some (i,j))(isSlice:Bool)(len cap:Nat)(hn:n=len)(hlc:len≤cap)(h0:0≤i)(h1:i≤j)(h2:j≤n) :
  (Instr.sliceBounds isSlice len cap (lo.map a.eval) (hi.map a.eval) none).run P w=.ok (i.toNat,j.toNat,cap) w:=by
 have af3:∀(o:Operand) k (m:Int),cL σ o=.data (.int k) m→a.eval o=.int k m:=fun o k m e=>by
  have:=h.cL o;rw[e] at this;exact(vM this).1
 unfold bounds at hb;cases lo with
 | none =>
   cases hi with
   | none =>
     obtain⟨rfl,rfl⟩:=e9 (aN hb);have:=sb0 (P:=P) (w:=w) isSlice len cap;rw[hn];simpa using this
   | some o =>
     simp only at hb;split at hb
     ·rename_i k y hy;obtain⟨rfl,e2⟩:=e9 (aN hb);have e:=af3 o k _ hy;rw[show y=j from e2] at e;simp only[Mo,Option.map_none,e];exact sbh isSlice len cap k h1 (by omega)
     ·cases hb
 | some o =>
   cases hi with
   | none =>
     simp only at hb;split at hb
     ·rename_i k y hy;obtain⟨e2,rfl⟩:=e9 (aN hb);have e:=af3 o k _ hy;rw[show y=i from e2] at e;simp only[Mo,Option.map_none,e];have:=sbl (P:=P) (w:=w) isSlice len cap k h0 (by omega);rw[hn];simpa using this
     ·cases hb
   | some o2 =>
     simp only at hb;split at hb
     ·rename_i k y k2 y2 hy hy2;obtain⟨e3,e4⟩:=e9 (aN hb);have e:=af3 o k _ hy;have e2:=af3 o2 k2 _ hy2;rw[show y=i from e3] at e;rw[show y2=j from e4] at e2;simp only[Mo,e,e2];exact alF isSlice len cap k k2 h0 h1 (by omega)
     ·cases hb
theorem Ut(s:List UInt8){i j:Int}(h0:0≤i)(h1:i≤j):(⟨s.toArray⟩:ByteArray).extract i.toNat j.toNat=⟨(sub s i (minus j i)).toArray⟩:=by
 have:(minus j i).toNat=j.toNat-i.toNat:=by simp only[minus];omega
 apply ByteArray.ext;rw[ByteArray.data_extract];apply Ue;simp[sub,this,List.extract_eq_take_drop]
theorem W3{α:Type}(s:List α)(i n:Int):(sub s i n).length≤s.length:=by
 simp only[sub,cW,qV];omega
theorem ado{I:Nat→Nat→Prop}{e:Ty}{l:List e.den}{blk off cap i j:Nat}(h4:∀(k:Nat) (x:e.den),l[k]?=some x→∃es:List Value,es.length=e.size ∧
   (∀(q:Nat) v,es[q]?=some v→w.cell? ⟨blk,off+k*e.size+q,none⟩=some v∧I blk (off+k*e.size+q))∧bN w I e x es) (h1:i≤j) (h2:j≤l.length) (h3:l.length≤cap) (h5:cap≤maxLen) (base:Option Addr)
  (hb:base=some ⟨blk,off+i*e.size,none⟩∨(i=cap∧base=some ⟨blk,off,none⟩)) :
  bN w I (.slice e) ((l.drop i).take (j-i)) [.slice base (j-i) (cap-i)]:=by
 have hlen:((l.drop i).take (j-i)).length=j-i:=by simp;omega
 rcases hb with rfl|⟨rfl,rfl⟩
 ·refine .inr ⟨blk,off+i*e.size,cap-i,?_,?_,by omega,fun k x hk=>?_⟩
  ·show [Value.slice _ (j-i) _]=[Value.slice _ (List.length (α:=e.den) ((l.drop i).take (j-i))) _]
   rw[hlen]
  ·show List.length (α:=e.den) ((l.drop i).take (j-i))≤_
   rw[hlen];omega
  ·have hk':((l.drop i).take (j-i))[k]?=some x:=hk;rw[gN] at hk';split at hk'
   ·rw[nW] at hk';obtain⟨es,g1,g2,g3⟩:=h4 _ x hk';refine⟨es,g1,fun q v hq=>?_,g3⟩;have:=g2 q v hq;rw[iw,←A9] at this;exact this
   ·cases hk'
 ·have hji:j=i:=by omega
  subst hji;refine .inr ⟨blk,off,0,by simp,by simp,by omega,fun k x hk=>?_⟩;have hk':((l.drop j).take (j-j))[k]?=some x:=hk;simp at hk'
theorem sub_eq{α:Type}(l:List α){i j:Int}(h0:0≤i)(h1:i≤j):sub l i (minus j i)=(l.drop i.toNat).take (j.toNat-i.toNat):=by
 have:(minus j i).toNat=j.toNat-i.toNat:=by simp only[minus];omega
 rw[sub,this]
theorem sub_zero{α:Type}(l:List α):sub l 0 (minus 0 0)=[]:=by simp[sub,minus]
theorem aaw{I:Nat→Nat→Prop}{e:Ty}{l:List e.den}{blk off cap:Nat}{i j:Int}(h4:∀(k:Nat) (x:e.den),l[k]?=some x→∃es:List Value,es.length=e.size ∧
   (∀(q:Nat) v,es[q]?=some v→w.cell? ⟨blk,off+k*e.size+q,none⟩=some v∧I blk (off+k*e.size+q))∧bN w I e x es) (h0:0≤i) (h1:i≤j) (h2:j≤l.length) (h3:l.length≤cap) (h5:cap≤maxLen) (base:Option Addr)
  (hb:base=some ⟨blk,off+i.toNat*e.size,none⟩∨(i.toNat=cap∧base=some ⟨blk,off,none⟩)) :
  bN w I (.slice e) (sub l i (minus j i)) [.slice base (j.toNat-i.toNat) (cap-i.toNat)]:=by
 rw[sub_eq l h0 h1];exact ado (w:=w) h4 (by omega) (by omega) h3 h5 base hb
theorem xq.sub{base:Option Addr}{cap:Nat}(h:xq base cap)(i s:Nat):xq (if cap=i then base else base.map (·.add s)) (cap-i):=by
 rcases h with rfl|⟨blk,off,rfl⟩
 ·exact .inl (by omega)
 ·refine .inr ?_;split
  ·exact⟨blk,off,rfl⟩
  ·exact⟨blk,off+s,by rw[Mo,addr_add]⟩
theorem GS.sub{bx:Box}{b:Nat}{lo i:Int}{base:Option Addr}{cap:Nat}(h:GS γ bx b lo base cap)(hlo:0≤lo)(h0:0≤i)(s:Nat) :
  GS γ bx b (plus lo i) (if cap=i.toNat then base else base.map (·.add (i.toNat*s))) (cap-i.toNat):=by
 intro e hb;have e1:lo=0:=by simp only[plus] at e;omega
 have e2:i=0:=by simp only[plus] at e;omega
 subst e1;subst e2;rcases h rfl hb with ⟨a1,rfl,rfl⟩|⟨blk,a1,rfl⟩
 ·exact .inl ⟨a1,by simp,rfl⟩
 ·refine .inr ⟨blk,by simpa using a1,?_⟩;split
  ·rfl
  ·simp[Addr.add]
theorem K5(hc:gA P cx){ty:TypeId}{x:Operand}{lo hi:Option Operand}(h:dB B N γ σ a w)(hd:∀k,d=some k→k<N)(hr:(mQ cx d ty (cL σ x) lo hi σ).run=some σ') :
  p6 P B N γ σ a w d (Instr.sliceAt ty (a.eval x) (lo.map a.eval) (hi.map a.eval) none) σ':=by
 have hv:=h.cL x;unfold mQ at hr;split at hr
 ·
  rename_i s hT hx;rw[hx] at hv;split at hr
  ·rename_i i j hb;obtain⟨hin,hr2⟩:=cF hr;obtain rfl:=aN hr2;obtain⟨h0,h1,h2⟩:=jQ hin;obtain⟨hval,hl⟩:=zD hv;have hu:=(hc.T _ _ hT).str;have hbr:=qY (P:=P) h hb false (List.length (α:=UInt8) s) (List.length (α:=UInt8) s) rfl (cU _) h0 h1 h2;refine bU h hd (x:=.string ⟨(sub (α:=UInt8) s i (minus j i)).toArray⟩) ?_ (mkStr (gY (W3 (α:=UInt8) s _ _) hl));rw[hval];have hsz:(⟨List.toArray (α:=UInt8) s⟩:ByteArray).size=List.length (α:=UInt8) s:=rfl;simp only[Instr.sliceAt,Instr.slice,Sem.run_bind,run_underlying hu,Result.andThen_ok,hsz,Option.isSome_none,WJ,EI];rw[hbr];simp only[Result.andThen_ok,Sem.run_pure];rw[Ut (show List UInt8 from s) h0 h1]
  ·cases hr
 ·
  rename_i u e l hT hx;rw[hx] at hv;obtain⟨Zo,kW⟩:=aD hr;obtain rfl:=Ty.eq_of_beq Zo;split at kW
  ·rename_i i j hb;obtain⟨hin,hr2⟩:=cF kW;obtain rfl:=aN hr2;obtain⟨h0,h1,h2⟩:=jQ hin;obtain⟨gd,k1,k2,k3,k4⟩:=(hc.T _ _ hT).slice;obtain⟨cs,MN,hval⟩:=eu.1 hv;have Wz:len (α:=u.den) l=(List.length (α:=u.den) l:Int):=rfl;rcases MN with ⟨⟨adp,e1⟩,e2⟩|⟨blk,off,cap,e1,e2,e3,e4⟩
   ·have J4:a.eval x=.slice adp 0 0:=by rw[hval,e1];rfl
    have hl0:List.length (α:=u.den) l=0:=by rw[show l=([]:List u.den) from e2];rfl
    rw[Wz,hl0] at h2;have hi0:i=0:=by omega
    have hj0:j=0:=by omega
    subst hi0;subst hj0;have hbr:=qY (P:=P) h hb true 0 0 (by rw[Wz,hl0]) (cU _) h0 h1 (by rw[Wz,hl0];exact h2);refine bU h hd (x:=.slice adp 0 0) ?_ ⟨_,.inl ⟨⟨adp,rfl⟩,?_⟩,rfl⟩
    ·rw[J4];simp only[Instr.sliceAt,Instr.slice,Sem.run_bind,run_underlying k1,Result.andThen_ok,hbr,k2.sizeOf w,Sem.run_pure];rfl
    ·exact sub_zero (α:=u.den) l
   ·have J4:a.eval x=.slice (some ⟨blk,off,none⟩) (List.length (α:=u.den) l) cap:=by rw[hval,e1];rfl
    have hbr:=qY (P:=P) h hb true (List.length (α:=u.den) l) cap Wz e2 h0 h1 h2;have hj:j.toNat≤List.length (α:=u.den) l:=by rw[Wz] at h2;omega
    have hmain:=aaw (w:=w) (i:=i) (j:=j) e4 h0 h1 (by rw[Wz] at h2;exact h2) e2 e3;refine bU h hd (x:=.slice (if cap=i.toNat then some ⟨blk,off,none⟩ else some ⟨blk,off+i.toNat*u.size,none⟩) (j.toNat-i.toNat) (cap-i.toNat)) ?_
     ⟨_,hmain (if cap=i.toNat then some ⟨blk,off,none⟩ else some ⟨blk,off+i.toNat*u.size,none⟩) (by
      split
      ·rename_i hcap;exact .inr ⟨hcap.symm,rfl⟩
      ·exact .inl rfl),rfl⟩
    rw[J4];simp only[Instr.sliceAt,Instr.slice,Sem.run_bind,run_underlying k1,Result.andThen_ok,hbr,k2.sizeOf w,Sem.run_pure,Mo,addr_add]
  ·cases kW
 ·
  rename_i u c aC lo' n hT hx;rw[hx] at hv;split at hr
  ·rename_i bx tK;obtain⟨Zo,kW⟩:=aD hr;simp only[dW] at Zo;have bF:=gz Zo.1;split at kW
   ·rename_i i j hb;obtain⟨hin,hr2⟩:=cF kW;obtain rfl:=aN hr2;obtain⟨h0,h1,h2⟩:=jQ hin;obtain⟨gd,k1,k2,k3,k4⟩:=(hc.T _ _ hT).slice;obtain⟨e',k,g2,g3,g4,g5,base,cap,g6,g7,g8,gF,g9⟩:=bC tK bF hv.2;have hue:u=e':=by
     have:=Zo.2;rw[g2] at this;exact Ty.eq_of_beq this
    subst hue;obtain g6:a.eval x=_:=by simpa using g6
    have hbr:=qY (P:=P) h hb true n.toNat cap (by omega) g7 h0 h1 h2;refine bU h hd (x:=.slice (if cap=i.toNat then base else base.map (·.add (i.toNat*u.size))) (j.toNat-i.toNat) (cap-i.toNat)) ?_
     ⟨⟨_,rfl,rfl⟩,bx,tK,by omega,fun _=>⟨u,k,g2,by simp only[plus];omega,by simp only[minus];omega,by simp only[plus,minus];omega,(if cap=i.toNat then base else base.map (·.add (i.toNat*u.size))),cap-i.toNat,?_,?_,?_,⟨gF.1.sub _ _,gF.2.sub g3 h0 _⟩,?_⟩⟩
    ·rw[g6];simp only[Instr.sliceAt,Instr.slice,Sem.run_bind,run_underlying k1,Result.andThen_ok,hbr,k2.sizeOf w,Sem.run_pure]
    ·have:(minus j i).toNat=j.toNat-i.toNat:=by simp only[minus];omega
     rw[this]
    ·simp only[minus];omega
    ·omega
    ·rcases g9 with g9|⟨blk,c',g9,g10⟩
     ·exact .inl (by simp only[minus];omega)
     ·by_cases hcap:cap=i.toNat
      ·exact .inl (by simp only[minus];omega)
      ·refine .inr ⟨blk,c',g9,?_⟩;rw[br hcap,g10];have:(plus lo' i).toNat=lo'.toNat+i.toNat:=by simp only[plus];omega
       simp only[Mo,addr_add,this,iw]
   ·cases kW
  ·cases hr
 ·
  rename_i u c aC hT hx;rw[hx] at hv;split at hr
  ·rename_i bx tK;obtain⟨Zo,kW⟩:=aD hr;simp only[dW] at Zo;have bF:=gz Zo.1;split at kW
   ·rename_i e l oW;obtain⟨hue,hr2⟩:=aD kW;obtain rfl:=Ty.eq_of_beq hue;obtain⟨gd,k1,k2,k3,k4⟩:=(hc.T _ _ hT).slice;obtain⟨e',n',g1,g2,g3⟩:=bC tK bF hv.2;have hrow:bx.row=some (u,List.length (α:=u.den) l):=Box.dZ Zo.2 oW;rw[hrow] at g2;obtain⟨rfl,rfl⟩:=e9 (aN g2);have jt:=h.ok.boxes c bx tK;rw[cR,g1] at jt;obtain⟨e2,l2,j1,j2,j3⟩:=jt;have ajH:∃base cap,a.eval x=.slice base (List.length (α:=u.den) l) cap∧List.length (α:=u.den) l≤cap∧cap≤maxLen∧(((cap=0∧List.length (α:=u.den) l=0)∧γ.loc c=none∧base=none)∨∃blk,γ.loc c=some (blk,cap)∧base=some ⟨blk,0,none⟩):=by
     rw[oW] at j1;cases j1;rcases g3 with ⟨g3,g4⟩|⟨blk,cap,g3,g4⟩
     ·obtain g4:a.eval x=_:=by simpa using g4
      rcases j3 with ⟨_,j4⟩|⟨_,_,_,_,_,j3,_⟩
      ·have hl0:List.length (α:=u.den) l=0:=by rw[j4];rfl
       exact⟨none,0,by rw[g4,hl0],by omega,rT _,.inl ⟨⟨rfl,hl0⟩,g3,rfl⟩⟩
      ·rw[g3] at j3;cases j3
     ·obtain g4:a.eval x=_:=by simpa using g4
      rcases j3 with ⟨j3,_⟩|⟨dX,cap',cur,tid,fr,q1,q2,q3,jb,q4,q5,q6,q7⟩
      ·rw[g3] at j3;cases j3
      ·rw[g3] at q1;obtain⟨rfl,rfl⟩:=e9 (aN q1);exact⟨_,cap,g4,q4,q5,.inr ⟨blk,g3,rfl⟩⟩
    obtain⟨base,cap,m1,m2,m3,m4⟩:=ajH;have hF:xq base cap:=by
     rcases m4 with ⟨⟨q2,_⟩,_⟩|⟨blk,q1,q2⟩
     ·exact .inl q2
     ·exact .inr ⟨blk,0,q2⟩
    have hZ:GS γ bx c 0 base cap:=fun _ _=>by
     rcases m4 with ⟨⟨q2,_⟩,q3,q4⟩|⟨blk,q1,q2⟩
     ·exact .inl ⟨q3,q4,q2⟩
     ·exact .inr ⟨blk,q1,q2⟩
    have Zp:∀{i j:Int},bounds σ (len (α:=u.den) l) lo hi=some (i,j)→0≤i→i≤j→j≤len (α:=u.den) l →
      (Instr.sliceAt ty (a.eval x) (lo.map a.eval) (hi.map a.eval) none).run P w=.ok (.slice (if cap=i.toNat then base else base.map (·.add (i.toNat*u.size))) (j.toNat-i.toNat) (cap-i.toNat)) w:=by
     intro i j hb h0 h1 h2;have hbr:=qY (P:=P) h hb true (List.length (α:=u.den) l) cap rfl m2 h0 h1 h2;rw[m1];simp only[Instr.sliceAt,Instr.slice,Sem.run_bind,run_underlying k1,Result.andThen_ok,hbr,k2.sizeOf w,Sem.run_pure]
    split at hr2
    ·obtain rfl:=aN hr2;have:=Zp (i:=0) (j:=len (α:=u.den) l) rfl (by omega) (by simp only[len];omega) (by omega);have hjl:(len (α:=u.den) l).toNat=List.length (α:=u.den) l:=by simp[len]
     rw[hjl] at this;refine bU h hd (x:=a.eval x) ?_ hv;rw[this,m1]
     congr 1
     have:(base.map (·.add ((0:Int).toNat*u.size)))=base:=by cases base<;>simp[Addr.add]
     rw[this];simp
    ·split at hr2
     ·rename_i i j hb;obtain⟨hin,jP⟩:=cF hr2;obtain rfl:=aN jP;obtain⟨h0,h1,h2⟩:=jQ hin;have Wz:len (α:=u.den) l=(List.length (α:=u.den) l:Int):=rfl;rw[Wz] at h2;refine bU h hd (Zp hb h0 h1 h2)
       ⟨⟨_,rfl,rfl⟩,bx,tK,by omega,fun _=>⟨u,_,hrow,h0,by simp only[minus];omega,by simp only[minus];omega,(if cap=i.toNat then base else base.map (·.add (i.toNat*u.size))),cap-i.toNat,?_,?_,?_,⟨hF.sub _ _,by have:=hZ.sub (EH 0) h0 u.size;rwa [show plus 0 i=i by simp[plus]] at this⟩,?_⟩⟩
      ·have:(minus j i).toNat=j.toNat-i.toNat:=by simp only[minus];omega
       rw[this]
      ·simp only[minus];omega
      ·omega
      ·by_cases hcap:cap=i.toNat
       ·exact .inl (by simp only[minus];omega)
       ·rcases m4 with ⟨q1,q3⟩|⟨blk,q1,q2⟩
        ·exact .inl (by simp only[minus];omega)
        ·refine .inr ⟨blk,cap,q1,?_⟩;rw[br hcap,q2];simp only[Mo,addr_add,ym]
     ·cases hr2
   ·cases kW
  ·cases hr
 ·
  rename_i m u c aC s q hT hx;rw[hx] at hv;obtain⟨hlm,kW⟩:=aD hr;simp only[dW] at hlm;obtain⟨bx,tK,bF⟩:=kV hlm.1;have alH:=KV hlm.2;split at kW
  ·rename_i i j hb;obtain⟨hin,jP⟩:=cF kW;obtain rfl:=aN jP;obtain⟨h0,h1,h2⟩:=jQ hin;obtain⟨gd,k1,k2,k3⟩:=(hc.T _ _ hT).arr;obtain⟨blk,cap,hl,hval⟩:=bC tK bF hv.2;obtain hval:a.eval x=.pointer (some ⟨blk,cP (s::q),none⟩):=by simpa using hval
   have hbr:=qY (P:=P) h hb false m m rfl (cU _) h0 h1 h2;refine bU h hd (x:=.slice (some (if m=i.toNat then⟨blk,cP (s::q),none⟩ else(⟨blk,cP (s::q),none⟩:Addr).add (i.toNat*u.size))) (j.toNat-i.toNat) (m-i.toNat)) ?_
    ⟨⟨_,rfl,rfl⟩,bx,tK,by omega,fun _=>⟨by simp,blk,cap,hl,h0,by simp only[minus];omega,by simp only[minus];omega,some (if m=i.toNat then⟨blk,cP (s::q),none⟩ else(⟨blk,cP (s::q),none⟩:Addr).add (i.toNat*u.size)),m-i.toNat,?_,?_,?_⟩⟩
   ·rw[hval];simp only[Instr.sliceAt,Sem.run_bind,run_underlying k1,Result.andThen_ok,Instr.sureAddr,Sem.run_pure,hbr,k2.sizeOf w]
   ·have:(minus j i).toNat=j.toNat-i.toNat:=by simp only[minus];omega
    rw[this]
   ·simp only[minus];omega
   ·by_cases hcap:m=i.toNat
    ·exact .inl (by simp only[minus];omega)
    ·refine .inr ?_;rw[br hcap];simp only[addr_add]
  ·cases kW
 ·
  rename_i m u c aC hT hx;rw[hx] at hv;split at hr
  ·rename_i bx tK;obtain⟨Zo,kW⟩:=aD hr;simp only[dW,nq] at Zo;have bF:=gz Zo.1;split at kW
   ·rename_i n e l oW;obtain⟨hq,hr2⟩:=aD kW;simp only[dW] at hq;obtain rfl:=gz hq.1.1;obtain rfl:=Ty.eq_of_beq hq.1.2;have alH:=KV hq.2;split at hr2
    ·rename_i i j hb;obtain⟨hin,jP⟩:=cF hr2;obtain rfl:=aN jP;obtain⟨h0,h1,h2⟩:=jQ hin;obtain⟨gd,k1,k2,k3⟩:=(hc.T _ _ hT).arr;obtain⟨blk,cap,hl,hval⟩:=bC tK bF hv.2;obtain hval:a.eval x=.pointer (some ⟨blk,0,none⟩):=by simpa [cP] using hval
     have hbr:=qY (P:=P) h hb false m m rfl (cU _) h0 h1 h2;have hF:xq (some (if m=i.toNat then⟨blk,0,none⟩ else(⟨blk,0,none⟩:Addr).add (i.toNat*u.size))) (m-i.toNat):=by
      refine .inr ?_;split
      ·exact⟨blk,0,rfl⟩
      ·exact⟨blk,0+i.toNat*u.size,by rw[addr_add]⟩
     refine bU h hd (x:=.slice (some (if m=i.toNat then⟨blk,0,none⟩ else(⟨blk,0,none⟩:Addr).add (i.toNat*u.size))) (j.toNat-i.toNat) (m-i.toNat)) ?_
      ⟨⟨_,rfl,rfl⟩,bx,tK,by omega,fun _=>⟨u,m,Box.si Zo.2 oW,h0,by simp only[minus];omega,by simp only[minus];omega,some (if m=i.toNat then⟨blk,0,none⟩ else(⟨blk,0,none⟩:Addr).add (i.toNat*u.size)),m-i.toNat,?_,?_,?_,⟨hF,fun _ hb=>by rw[Zo.2] at hb;cases hb⟩,?_⟩⟩
     ·rw[hval];simp only[Instr.sliceAt,Sem.run_bind,run_underlying k1,Result.andThen_ok,Instr.sureAddr,Sem.run_pure,hbr,k2.sizeOf w]
     ·have:(minus j i).toNat=j.toNat-i.toNat:=by simp only[minus];omega
      rw[this]
     ·simp only[minus];omega
     ·simp only[maxLen];omega
     ·by_cases hcap:m=i.toNat
      ·exact .inl (by simp only[minus];omega)
      ·refine .inr ⟨blk,cap,hl,?_⟩;rw[br hcap];simp only[addr_add,ym]
    ·cases hr2
   ·cases kW
  ·cases hr
 ·cases hr
end
end Go.Ge
namespace Go.Ge
open RowKit
section
variable {P:Program} {B:tJ} {N:Nat} {γ:Gh} {σ σ':St} {a:Act} {w:World} {d:Option Nat} {cx:Ctx}
theorem bN.flat{w w':World}{I I':Nat→Nat→Prop}:∀{t:Ty} {x:t.den} {cs:List Value},t.flat=true→bN w I t x cs→bN w' I' t x cs:=by
 intro t;induction t with
 | int k=>intro x cs _ h;exact h
 | bool=>intro x cs _ h;exact h
 | str=>intro x cs _ h;exact h
 | slice e ih=>intro x cs hf;cases hf
 | arr n e ih=>intro x cs hf h;exact⟨h.1,h.2.1,fun i y hy=>ih hf (h.2.2 i y hy)⟩
 | pair a b kM nV =>
   intro x cs hf h;simp only[Ty.flat,dW] at hf;obtain⟨c1,c2,h0,h1,h2⟩:=h;exact⟨c1,c2,h0,kM hf.1 h1,nV hf.2 h2⟩
 | unit=>intro x cs _ h;exact h
 | alt u a r kM ihr =>
   intro x cs hf h;simp only[Ty.flat,dW] at hf;rcases x with y|z
   ·obtain⟨h1,c,h2,h3⟩:=h;exact⟨h1,c,h2,kM hf.1 h3⟩
   ·exact ihr hf.2 (show bN w I r z cs from h)
 | CG=>intro x cs _ h;exact h
def CS(w:World)(I:Nat→Nat→Prop)(e:Ty)(l:List e.den)(v:Value):Prop :=
 (l=[]∧∃base cap,v=.slice base 0 cap∧cap≤maxLen∧xq base cap) ∨
 ∃blk off cap,v=.slice (some ⟨blk,off,none⟩) l.length cap∧l.length≤cap∧cap≤maxLen ∧
  ∀(i:Nat) (x:e.den),l[i]?=some x→∃es:List Value,es.length=e.size ∧
   (∀(j:Nat) c,es[j]?=some c→w.cell? ⟨blk,off+i*e.size+j,none⟩=some c)∧bN w I e x es
theorem Bl{I:Nat→Nat→Prop}{e:Ty}{l:List e.den}{blk:Nat}{cur:Array Value}{tid:TypeId}{fr:Nat×Nat}(hg:w.heap[blk]?=some (.cells cur tid fr)){n:Nat}(hn:n*e.size≤cur.size)
  (h:∀(i:Nat) (x:e.den),l[i]?=some x→bN w I e x ((cur.toList.drop (i*e.size)).take e.size)) (hl:l.length≤n) (lo:Nat) :
  ∀(i:Nat) (x:e.den),(l.drop lo)[i]?=some x→∃es:List Value,es.length=e.size ∧
   (∀(j:Nat) c,es[j]?=some c→w.cell? ⟨blk,lo*e.size+i*e.size+j,none⟩=some c)∧bN w I e x es:=by
 intro i x hx;rw[nW] at hx;have hr:=h _ x hx;have hlt:=(List.getElem?_eq_some_iff.1 hx).1;refine⟨_,hr.length,fun j c hj=>?_,hr⟩;rw[cell_of_heap hg];rw[gN] at hj;split at hj
 ·rw[nW] at hj;rw[←iw];simpa using hj
 ·cases hj
theorem cR.row{b:Nat}{bx:Box}{mem:Nat→Option Box}(h:cR γ mem w b bx){blk cap:Nat}(hl:γ.loc b=some (blk,cap)) :
  (∀(e:Ty) (l:List e.den),bx.buf=true→bx.val=.data (.slice e) l→∃cur tid fr,w.heap[blk]?=some (.cells cur tid fr)∧nw cur fr∧l.length≤cap∧cap≤maxLen∧cur.size=cap*e.size∧0<e.size ∧
   ∀(i:Nat) (x:e.den),l[i]?=some x→bN w γ.I e x ((cur.toList.drop (i*e.size)).take e.size)) ∧
  (∀(n:Nat) (e:Ty) (l:List e.den),bx.buf=false→bx.val=.data (.arr n e) l→∃cur tid fr,w.heap[blk]?=some (.cells cur tid fr)∧nw cur fr∧l.length=n∧cur.size=n*e.size ∧
   ∀(i:Nat) (x:e.den),l[i]?=some x→bN w γ.I e x ((cur.toList.drop (i*e.size)).take e.size)):=by
 refine⟨fun e l hb hv=>?_,fun n e l hb hv=>?_⟩
 ·rw[cR,hb] at h;obtain⟨e',l',h1,h2,h3⟩:=h;rw[hv] at h1;cases h1;rcases h3 with ⟨h3,_⟩|⟨dX,cap',cur,tid,fr,q1,q2,q3,jb,q4,q5,q6,q7⟩
  ·rw[hl] at h3;cases h3
  ·rw[hl] at q1;obtain⟨rfl,rfl⟩:=e9 (aN q1);exact⟨cur,tid,fr,q2,q3.th,q4,q5,q6,h2,q7⟩
 ·rw[cR,hb] at h;obtain⟨dX,cap',cur,tid,fr,q1,q2,q3,jb,q4⟩:=h;rw[hl] at q1;obtain⟨rfl,rfl⟩:=e9 (aN q1);rw[hv] at q4;obtain⟨r1,r2,r3⟩:=q4;exact⟨cur,tid,fr,q2,q3,r1,by simpa using r2,r3⟩
theorem G0{u e:Ty}{l:List u.den}{m:List e.den}(h:toL u e l=some m):∃q:u=e,m=q▸l:=mC h
theorem ob{e:Ty}{v:aS}{l:List e.den}(hl:gZ e σ v=some l) :
  v=.data (.slice e) l∨(v=.qd∧l=[])∨(∃b aC bx,v=.whole b aC∧σ.mem b=some bx∧bx.aC=aC∧bx.buf=true∧bx.val=.data (.slice e) l) ∨
  ∃b aC lo n bx,v=.part b aC lo n∧σ.mem b=some bx∧bx.aC=aC∧((bx.buf=true∧∃l0:List e.den,bx.val=.data (.slice e) l0∧l=sub l0 lo n)∨(bx.buf=false∧∃(k:Nat) (l0:List e.den),bx.val=.data (.arr k e) l0∧l=sub l0 lo n)):=by
 unfold gZ at hl;split at hl
 ·obtain⟨q,rfl⟩:=G0 hl;subst q;exact .inl rfl
 ·exact .inr (.inl ⟨rfl,(aN hl).symm⟩)
 ·rename_i b aC;split at hl
  ·rename_i bx hb;cases hc:(Nat.beq bx.aC aC&&bx.buf) with
   | false=>rw[hc,jM] at hl;exact absurd hl (by simp)
   | true =>
     rw[hc,gp] at hl;simp only[dW] at hc;split at hl
     ·rename_i u l0 oW;obtain⟨q,rfl⟩:=G0 hl;subst q;exact .inr (.inr (.inl ⟨b,aC,bx,rfl,hb,gz hc.1,hc.2,oW⟩))
     ·exact absurd hl (by simp)
  ·exact absurd hl (by simp)
 ·rename_i b aC lo n;split at hl
  ·rename_i bx hb;cases hc:Nat.beq bx.aC aC with
   | false=>rw[hc,jM] at hl;exact absurd hl (by simp)
   | true =>
     rw[hc,gp] at hl;split at hl
     ·rename_i u l0 bO oW;obtain⟨q,rfl⟩:=G0 hl;subst q;exact .inr (.inr (.inr ⟨b,aC,lo,n,bx,rfl,hb,gz hc,.inl ⟨bO,l0,oW,rfl⟩⟩))
     ·rename_i k0 u l0 bO oW;obtain⟨q,rfl⟩:=G0 hl;subst q;exact .inr (.inr (.inr ⟨b,aC,lo,n,bx,rfl,hb,gz hc,.inr ⟨bO,k0,l0,oW,rfl⟩⟩))
     ·exact absurd hl (by simp)
  ·exact absurd hl (by simp)
 ·exact absurd hl (by simp)
theorem L4{α:Type}{l:List α}{lo n:Int}(h0:0≤lo)(h1:0≤n)(h2:lo+n≤l.length):(sub l lo n).length=n.toNat:=by
 simp only[sub,cW,qV];omega
theorem tU(hm:bK B γ σ.mem w){e:Ty}{v:aS}{val:Value}{l:List e.den}(hv:cI γ σ.mem w v .val [val])(hl:gZ e σ v=some l):CS w γ.I e l val:=by
 rcases ob hl with rfl|⟨rfl,rfl⟩|⟨b,aC,bx,rfl,hb,bF,bO,oW⟩|⟨b,aC,lo,n,bx,rfl,hb,bF,LY⟩
 ·obtain⟨cs,h1,hval⟩:=eu.1 hv;rcases h1 with ⟨⟨base,h1⟩,h2⟩|⟨blk,off,cap,h1,h2,h3,h4⟩
  ·exact .inl ⟨h2,base,0,by rw[hval,h1];rfl,rT _,.inl rfl⟩
  ·refine .inr ⟨blk,off,cap,by rw[hval,h1];rfl,h2,h3,fun i x hx=>?_⟩;obtain⟨es,g1,g2,g3⟩:=h4 i x hx;exact⟨es,g1,fun j c hj=>(g2 j c hj).1,g3⟩
 ·obtain rfl:val=_:=by simpa [cI] using hv
  exact .inl ⟨rfl,none,0,rfl,rT _,.inl rfl⟩
 ·obtain⟨e',n',g1,g2,g3⟩:=bC hb bF hv.2;rw[Box.dZ g1 oW] at g2;obtain⟨rfl,rfl⟩:=e9 (aN g2);rcases g3 with ⟨g3,g4⟩|⟨blk,cap,g3,g4⟩
  ·obtain rfl:val=_:=by simpa using g4
   have jt:=hm.boxes b bx hb;rw[cR,g1] at jt;obtain⟨e2,l2,j1,j2,j3⟩:=jt;rw[oW] at j1;cases j1;rcases j3 with ⟨_,j4⟩|⟨_,_,_,_,_,j3,_⟩
   ·exact .inl ⟨j4,none,0,rfl,rT _,.inl rfl⟩
   ·rw[g3] at j3;exact absurd j3 (by simp)
  ·obtain rfl:val=_:=by simpa using g4
   obtain⟨cur,tid,fr,q1,q2,q3,q4,q5,q6,q7⟩:=((hm.boxes b bx hb).row g3).1 _ l g1 oW;refine .inr ⟨blk,0,cap,rfl,q3,q4,fun i x hx=>?_⟩;have:=Bl q1 (n:=cap) (by omega) q7 q3 0 i x hx;rw[QG] at this;exact this
 ·obtain⟨e',k,g2,g3,g4,g5,base,cap,g6,g7,g8,gF,g9⟩:=bC hb bF hv.2;obtain rfl:val=_:=by simpa using g6
  rcases LY with ⟨bO,l0,oW,rfl⟩|⟨bO,k0,l0,oW,rfl⟩
  ·rw[Box.dZ bO oW] at g2;obtain⟨rfl,rfl⟩:=e9 (aN g2);have hlen:=L4 g3 g4 g5;rcases g9 with g9|⟨blk,c,g9,g10⟩
   ·subst g9;exact .inl ⟨by simp[sub],base,cap,rfl,g8,gF.1⟩
   ·obtain⟨cur,tid,fr,q1,q2,q3,q4,q5,q6,q7⟩:=((hm.boxes b bx hb).row g9).1 _ l0 bO oW;refine .inr ⟨blk,lo.toNat*e.size,cap,by rw[g10,hlen],by rw[hlen];exact g7,g8,fun i x hx=>?_⟩;have hx':((List.drop lo.toNat l0).take n.toNat)[i]?=some x:=hx;rw[gN] at hx';split at hx'
    ·exact Bl q1 (n:=c) (by omega) q7 q3 lo.toNat i x hx'
    ·exact absurd hx' (by simp)
  ·rw[Box.si bO oW] at g2;obtain⟨rfl,rfl⟩:=e9 (aN g2);rcases g9 with g9|⟨blk,c,g9,g10⟩
   ·subst g9;exact .inl ⟨by simp[sub],base,cap,rfl,g8,gF.1⟩
   ·obtain⟨cur,tid,fr,q1,q2,q3,q5,q7⟩:=((hm.boxes b bx hb).row g9).2 _ _ l0 bO oW;have hlen:=L4 (l:=l0) g3 g4 (by rw[q3];exact g5);refine .inr ⟨blk,lo.toNat*e.size,cap,by rw[g10,hlen],by rw[hlen];exact g7,g8,fun i x hx=>?_⟩;have hx':((List.drop lo.toNat l0).take n.toNat)[i]?=some x:=hx;rw[gN] at hx';split at hx'
    ·exact Bl q1 (n:=k0) (by omega) q7 (by omega) lo.toNat i x hx'
    ·exact absurd hx' (by simp)
theorem FW{I:Nat→Nat→Prop}{e:Ty}{blk:Nat}:∀{l:List e.den} {off:Nat},(∀(i:Nat) (x:e.den),l[i]?=some x→∃es:List Value,es.length=e.size ∧
   (∀(j:Nat) c,es[j]?=some c→w.cell? ⟨blk,off+i*e.size+j,none⟩=some c)∧bN w I e x es) →
  ∃news:List Value,news.length=l.length*e.size∧(∀(j:Nat) c,news[j]?=some c→w.cell? ⟨blk,off+j,none⟩=some c)∧(∀c∈news,c.oneCell'=true) ∧
   ∀(i:Nat) (x:e.den),l[i]?=some x→bN w I e x ((news.drop (i*e.size)).take e.size):=by
 intro l;induction l with
 | nil=>intro off h;exact⟨[],by simp,by simp,by simp,by simp⟩
 | cons x0 r ih =>
   intro off h;obtain⟨es,g1,g2,g3⟩:=h 0 x0 rfl;obtain⟨news,k1,k2,k3,k4⟩:=ih (off:=off+e.size) fun i x hx=>by
    obtain⟨es',a1,a2,a3⟩:=h (i+1) x (by simpa using hx);refine⟨es',a1,fun j c hj=>?_,a3⟩;have:=a2 j c hj;rw[CF] at this;rw[←this];congr 2;omega
   refine⟨es++news,by rw[iO,g1,k1,ep,CF];omega,fun j c hj=>?_,fun c hc=>?_,fun i x hx=>?_⟩
   ·rw[TO] at hj;split at hj
    ·have:=g2 j c hj;simpa using this
    ·rename_i hlt;have:=k2 _ c hj;rw[←this];congr 2;omega
   ·rcases List.mem_append.1 hc with hc|hc
    ·exact g3.one c hc
    ·exact k3 c hc
   ·cases i with
    | zero =>
      obtain rfl:x0=x:=by simpa using hx
      rw[QG,FO,←g1,JW];exact g3
    | succ i =>
      have hx':r[i]?=some x:=by simpa using hx
      rw[CF,Zh,←zw,←g1,EG,g1];exact k4 i x hx'
theorem G1(h:dB B N γ σ a w){b:Nat}{bx:Box}{e:Ty}{n:Nat}(hb:σ.mem b=some bx)(hrow:bx.row=some (e,n))(hf:freeze σ b=some σ') :
  ∃γ',dB B N γ' σ' a w∧Ext B γ σ.mem w γ' σ'.mem w∧γ'.loc=γ.loc∧∀blk k off,γ.loc b=some (blk,k)→off<n*e.size→γ'.I blk off:=by
 obtain⟨m1,m2⟩:=h.ok.freeze hb hrow;have e1:σ'={ slots:=σ.slots,mem:=cQ σ.mem b { bx with ro:=true } }:=by
  unfold freeze at hf;rw[hb] at hf;cases hro:bx.ro with
  | true =>
    simp only[hro,gp,vJ] at hf;subst hf;have:cQ σ.mem b { bx with ro:=true }=σ.mem:=by
     funext c;by_cases e:c=b
     ·subst e;rw[bL,hb];congr 1;cases bx;simp only at hro;subst hro;rfl
     ·rw[aR _ e]
    rw[this]
  | false =>
    simp only[hro,jM] at hf;cases hlk:bx.lk with
    | true=>simp[hlk] at hf
    | false=>simp only[hlk,jM,vJ] at hf;subst hf;rfl
 subst e1;exact⟨_,h.go m2 m1,m2,rfl,fun blk k off hl ho=>.inr ⟨⟨k,hl⟩,ho⟩⟩
theorem CS.data{γ':Gh}{e:Ty}{l:List e.den}{val:Value}(h:CS w γ.I e l val)(hI:∀b o,γ.I b o→γ'.I b o)
  (hc:∀blk off cap,val=.slice (some ⟨blk,off,none⟩) l.length cap→∀j,j<l.length*e.size→γ'.I blk (off+j)):bN w γ'.I (.slice e) l [val]:=by
 rcases h with ⟨rfl,base,cap,r1,r2,r3⟩|⟨blk,off,cap,r1,r2,r3,r4⟩
 ·rcases r3 with rfl|⟨blk,off,rfl⟩
  ·exact .inl ⟨⟨base,by rw[r1]⟩,rfl⟩
  ·exact .inr ⟨blk,off,cap,by rw[r1];rfl,rT _,r2,fun i x hx=>by cases hx⟩
 ·refine .inr ⟨blk,off,cap,by rw[r1],r2,r3,fun i x hx=>?_⟩;obtain⟨es,g1,g2,g3⟩:=r4 i x hx;have hi:i<l.length:=(List.getElem?_eq_some_iff.1 hx).1;refine⟨es,g1,fun j c hj=>⟨g2 j c hj,?_⟩,bN.mono hI (fun _ _ _=>rfl) g3⟩;have hj':j<e.size:=by have:=(List.getElem?_eq_some_iff.1 hj).1;omega
  have:(i+1)*e.size≤l.length*e.size:=gM _ hi;rw[CF] at this;rw[A9];exact hc blk off cap r1 _ (by omega)
theorem G2(h:dB B N γ σ a w){e:Ty}{v:aS}{val:Value}{l:List e.den}(hv:cI γ σ.mem w v .val [val])(hl:gZ e σ v=some l)(hf:iy σ v=some σ') :
  ∃γ',dB B N γ' σ' a w∧Ext B γ σ.mem w γ' σ'.mem w∧bN w γ'.I (.slice e) l [val]:=by
 have hrow:=tU h.ok hv hl;rcases ob hl with rfl|⟨rfl,rfl⟩|⟨b,aC,bx,rfl,hb,bF,bO,oW⟩|⟨b,aC,lo,n,bx,rfl,hb,bF,LY⟩
 ·obtain rfl:=aN hf;obtain⟨cs,h1,hval⟩:=eu.1 hv;have:cs=[val]:=by
   obtain⟨c,rfl⟩:=List.length_eq_one_iff.1 h1.length;rw[hval];rfl
  exact⟨γ,h,Ext.refl _ _ _ _,by rw[←this];exact h1⟩
 ·obtain rfl:=aN hf;obtain rfl:val=_:=by simpa [cI] using hv
  exact⟨γ,h,Ext.refl _ _ _ _,.inl ⟨⟨none,rfl⟩,rfl⟩⟩
 ·obtain⟨γ',s1,s2,s3,s4⟩:=G1 h hb (Box.dZ bO oW) hf;refine⟨γ',s1,s2,hrow.data s2.I fun blk off cap hval j hj=>?_⟩;obtain⟨e',n',g1,g2,g3⟩:=bC hb bF hv.2;rcases g3 with ⟨g3,g4⟩|⟨dX,cap',g3,g4⟩
  ·obtain rfl:val=_:=by simpa using g4
   injection hval with q1 q2 q3
   rw[←q2,QG] at hj;omega
  ·obtain rfl:val=_:=by simpa using g4
   injection hval with q1 q2 q3
   injection q1 with q1
   injection q1 with q1 q4
   subst q1;subst q4;rw[ym];exact s4 dX cap' j g3 hj
 ·obtain⟨e',k,g2,g3,g4,g5,base,cap,g6,g7,g8,gF,g9⟩:=bC hb bF hv.2;obtain rfl:val=_:=by simpa using g6
  have hlk:e=e'∧l.length=n.toNat:=by
   rcases LY with ⟨bO,l0,oW,rfl⟩|⟨bO,k0,l0,oW,rfl⟩
   ·rw[Box.dZ bO oW] at g2;obtain⟨rfl,rfl⟩:=e9 (aN g2);exact⟨rfl,L4 g3 g4 g5⟩
   ·rw[Box.si bO oW] at g2;obtain⟨rfl,rfl⟩:=e9 (aN g2);rcases g9 with g9|⟨blk,c,g9,g10⟩
    ·subst g9;exact⟨rfl,by simp[sub]⟩
    ·obtain⟨cur,tid,fr,q1,q2,q3,q5,q7⟩:=((h.ok.boxes b bx hb).row g9).2 _ _ l0 bO oW;exact⟨rfl,L4 g3 g4 (by rw[q3];exact g5)⟩
  obtain⟨rfl,hlen⟩:=hlk;obtain⟨γ',s1,s2,s3,s4⟩:=G1 h hb g2 hf;refine⟨γ',s1,s2,hrow.data s2.I fun blk off cap' hval j hj=>?_⟩;rcases g9 with g9|⟨dX,c,g9,g10⟩
  ·rw[hlen,g9] at hj;simp at hj
  ·injection hval with q1 q2 q3
   rw[g10] at q1;injection q1 with q1
   injection q1 with q1 q4
   subst q1;subst q4;refine s4 dX c _ g9 ?_;have:(lo.toNat+n.toNat)*e.size≤k*e.size:=gM _ (by omega);rw[iw] at this;rw[hlen] at hj;omega
theorem EZ{e:Ty}{v:aS}{l:List e.den}{b:Nat}(h:gZ e σ v=some l)(hf:freeze σ b=some σ'):gZ e σ' v=some l:=by
 have hm:∀c bx,σ.mem c=some bx→∃r,σ'.mem c=some { bx with ro:=r }:=by
  intro c bx hc;unfold freeze at hf;split at hf
  ·rename_i dM hb0;cases hro:dM.ro with
   | true=>simp only[hro,gp,vJ] at hf;subst hf;exact⟨bx.ro,hc⟩
   | false =>
     cases hlk:dM.lk with
     | true=>simp[hro,hlk] at hf
     | false =>
       simp only[hro,hlk,jM,vJ] at hf;subst hf;by_cases e:c=b
       ·subst e;rw[hb0] at hc;obtain rfl:=aN hc;exact⟨true,by simp[St.cm,hlk]⟩
       ·exact⟨bx.ro,by simp[St.cm,ja e,hc]⟩
  ·cases hf
 rcases ob h with rfl|⟨rfl,rfl⟩|⟨c,aC,bx,rfl,hb,bF,bO,oW⟩|⟨c,aC,lo,n,bx,rfl,hb,bF,LY⟩
 ·exact h
 ·rfl
 ·obtain⟨r,hr⟩:=hm c bx hb;simp only[gZ,hr,bF,bO,oW,Uc,Bool.and_self,gp];simp[toL,Ty.beq_refl]
 ·obtain⟨r,hr⟩:=hm c bx hb;rcases LY with ⟨bO,l0,oW,rfl⟩|⟨bO,k0,l0,oW,rfl⟩
  ·simp only[gZ,hr,bF,bO,oW,Uc,gp];simp[toL,Ty.beq_refl]
  ·simp only[gZ,hr,bF,bO,oW,Uc,gp];simp[toL,Ty.beq_refl]
theorem G3{s r:Ty}{p q:aS}{x:(Ty.pair s r).den}(h:tF σ (.pair s r) (.mix p q)=some x):∃(y:s.den) (z:r.den),tF σ s p=some y∧tF σ r q=some z∧x=(y,z):=by
 replace h:(match tF σ s p,tF σ r q with
  | some x,some y=>some ((x,y):(Ty.pair s r).den)
  | _,_=>none)=some x:=h
 split at h
 ·rename_i y z h1 h2;exact⟨y,z,h1,h2,(aN h).symm⟩
 ·exact absurd h (by simp)
theorem QL{s r:Ty}{p q:aS}{y:s.den}{z:r.den}(h1:tF σ s p=some y)(h2:tF σ r q=some z):tF σ (.pair s r) (.mix p q)=some ((y,z):(Ty.pair s r).den):=by
 show(match tF σ s p,tF σ r q with
  | some x,some y=>some ((x,y):(Ty.pair s r).den)
  | _,_=>none)=some (y,z)
 rw[h1,h2]
theorem yE{p q:aS}(h:iy σ (.mix p q)=some σ'):∃σ1,iy σ p=some σ1∧iy σ1 q=some σ':=by
 unfold iy at h;split at h
 ·rename_i σ1 h1;exact⟨σ1,h1,h⟩
 ·exact absurd h (by simp)
theorem rC{t:Ty}:∀{x:t.den},tF σ t .u7=some x→(∀w I,bN w I t x [.nilIface])∧(∀τ:St,tF τ t .u7=some x)∧cM t [.nilIface]=.nilIface∧t.isAgg=false:=by
 induction t with
 | alt u a r kM ihr =>
   intro x h;have h:(match tF σ r .u7 with|some x=>some (Sum.inr x)|none=>none:Option (a.den⊕r.den))=some x:=h;cases hr:tF σ r .u7 with
   | none=>rw[hr] at h;cases h
   | some y =>
     rw[hr] at h;obtain rfl:=aN h;obtain⟨h1,h2,h3,h4⟩:=ihr hr;refine⟨fun w I=>h1 w I,fun τ=>?_,h3,h4⟩;show(match tF τ r .u7 with|some x=>some (Sum.inr x)|none=>none:Option (a.den⊕r.den))=_
     rw[h2 τ];rfl
 | CG=>intro x h;obtain rfl:()=x:=aN h;exact⟨fun w I=>rfl,fun τ=>rfl,rfl,rfl⟩
 | slice e=>intro x h;cases h
 | pair a b=>intro x h;cases h
 | _=>intro x h;cases h
theorem Uu:∀{v:aS} {t:Ty} {x:t.den} {σ σ':St} {u:aS},tF σ t v=some x→iy σ u=some σ'→tF σ' t v=some x:=by
 have one:∀{u:aS} {e:Ty} {v:aS} {l:List e.den} {σ σ':St},gZ e σ v=some l→iy σ u=some σ'→gZ e σ' v=some l:=by
  intro u;induction u with
  | mix p q W4 Uv =>
    intro e v l σ σ' h hf;simp only[iy] at hf;cases hp:iy σ p with
    | none=>rw[hp] at hf;cases hf
    | some σ1=>rw[hp] at hf;exact Uv (W4 h hp) hf
  | whole b aC=>intro e v l σ σ' h hf;exact EZ h hf
  | part b aC lo n=>intro e v l σ σ' h hf;exact EZ h hf
  | _=>intro e v l σ σ' h hf;obtain rfl:=aN hf;exact h
 intro v;induction v with
 | data u y =>
   intro t x σ σ' u h hf;cases t with
   | slice e=>exact one h hf
   | _=>exact h
 | mix p q W4 Uv =>
   intro t x σ σ' u h hf;cases t with
   | pair s r =>
     obtain⟨y,z,h1,h2,rfl⟩:=G3 h;exact QL (W4 h1 hf) (Uv h2 hf)
   | slice e=>exact one h hf
   | _=>cases h
 | u7=>intro t x σ σ' u h hf;exact(rC h).2.1 _
 | _ =>
   intro t x σ σ' u h hf;cases t with
   | slice e=>exact one h hf
   | _=>cases h
theorem J7{γ:Gh}{mem:Nat→Option Box}{v:aS}{cs:List Value}(h:cI γ mem w v .cells cs)(h1:dn v=1):∃c,cs=[c]:=by
 have:=h.length;rw[h1] at this;exact List.length_eq_one_iff.1 this
theorem W5:∀{v:aS} {t:Ty} {x:t.den} {cs:List Value} {σ σ':St} {γ:Gh} {a:Act},dB B N γ σ a w→cI γ σ.mem w v .cells cs→tF σ t v=some x→iy σ v=some σ' →
  ∃γ',dB B N γ' σ' a w∧Ext B γ σ.mem w γ' σ'.mem w∧bN w γ'.I t x cs:=by
 have sl:∀{v:aS} {e:Ty} {l:List e.den} {cs:List Value} {σ σ':St} {γ:Gh} {a:Act},dn v=1→(∀c,cI γ σ.mem w v .cells [c]→cI γ σ.mem w v .val [c])→dB B N γ σ a w→cI γ σ.mem w v .cells cs→gZ e σ v=some l→iy σ v=some σ' →
   ∃γ',dB B N γ' σ' a w∧Ext B γ σ.mem w γ' σ'.mem w∧bN w γ'.I (.slice e) l cs:=by
  intro v e l cs σ σ' γ a h1 hval h hc hl hf;obtain⟨c,rfl⟩:=J7 hc h1;exact G2 h (hval c hc) hl hf
 intro v;induction v with
 | data u y =>
   intro t x cs σ σ' γ a h hc hl hf;obtain rfl:=aN hf;have key:(∃q:u=t,x=q▸y):=by
    cases t with
    | slice e =>
      rcases ob (show gZ e σ (.data u y)=some x from hl) with g|⟨g,_⟩|⟨_,_,_,g,_⟩|⟨_,_,_,_,_,g,_⟩
      ·injection g with g1 g2;subst g1;exact⟨rfl,(eq_of_heq g2).symm⟩
      ·cases g
      ·cases g
      ·cases g
    | _=>exact Ty.lT hl
   obtain⟨q,hq⟩:=key;subst q;subst hq;exact⟨γ,h,Ext.refl _ _ _ _,hc⟩
 | mix p q W4 Uv =>
   intro t x cs σ σ' γ a h hc hl hf;cases t with
   | pair s r =>
     obtain⟨c1,c2,rfl,h1,h2⟩:=hc;obtain⟨y,z,hp,hq,rfl⟩:=G3 hl;obtain⟨σ1,hfp,hf1⟩:=yE hf;obtain⟨jC,s1,s2,s3⟩:=W4 h h1 hp hfp;obtain⟨I9,t1,t2,t3⟩:=Uv s1 (h2.ext s2) (Uu hq hfp) hf1;exact⟨I9,t1,s2.trans t2,c1,c2,rfl,bN.mono t2.I t2.cells s3,t3⟩
   | slice e=>exact absurd hl (by intro k;cases k)
   | _=>cases hl
 | qd =>
   intro t x cs σ σ' γ a h hc hl hf;cases t with
   | slice e=>exact sl (v:=.qd) rfl (fun c k=>k) h hc hl hf
   | _=>cases hl
 | whole b aC =>
   intro t x cs σ σ' γ a h hc hl hf;cases t with
   | slice e=>exact sl (v:=.whole b aC) rfl (fun c k=>k) h hc hl hf
   | _=>cases hl
 | part b aC lo n =>
   intro t x cs σ σ' γ a h hc hl hf;cases t with
   | slice e=>exact sl (v:=.part b aC lo n) rfl (fun c k=>k) h hc hl hf
   | _=>cases hl
 | u7 =>
   intro t x cs σ σ' γ a h hc hl hf;obtain rfl:=aN hf;obtain rfl:cs=[.nilIface]:=hc;exact⟨γ,h,Ext.refl ..,(rC hl).1 _ _⟩
 | _ =>
   intro t x cs σ σ' γ a h hc hl hf;cases t with
   | slice e=>exact absurd hl (by intro k;cases k)
   | _=>cases hl
theorem oc{t:Ty}{x:t.den}{v:aS}{val:Value}(h:dB B N γ σ a w)(hv:cI γ σ.mem w v .val [val])(hg:Ap σ t v=some (x,σ')) :
  ∃γ',dB B N γ' σ' a w∧Ext B γ σ.mem w γ' σ'.mem w∧cI γ' σ'.mem w (.data t x) .val [val]:=by
 unfold Ap at hg;split at hg
 ·rename_i u y;split at hg
  ·rename_i y2 hy;obtain⟨rfl,rfl⟩:=e9 (aN hg);obtain⟨q,hq⟩:=Ty.lT hy;subst q;subst hq;exact⟨γ,h,Ext.refl _ _ _ _,hv⟩
  ·cases hg
 ·split at hg
  ·rename_i y σ1 hl hf;obtain⟨rfl,rfl⟩:=e9 (aN hg);cases v with
   | data u y'=>rename_i hne;exact absurd rfl (hne u y')
   | mix p q =>
     obtain⟨c1,c2,e1,h1,h2⟩:=hv;obtain rfl:val=_:=by simpa using e1
     obtain⟨γ',s1,s2,s3⟩:=W5 h (show cI γ σ.mem w (.mix p q) .cells (c1++c2) from⟨c1,c2,rfl,h1,h2⟩) hl hf;refine⟨γ',s1,s2,_,s3,?_⟩;cases t with
     | pair s r=>rfl
     | slice e=>exact absurd hl (by intro k;cases k)
     | _=>cases hl
   | qd =>
     cases t with
     | slice e=>obtain⟨γ',s1,s2,s3⟩:=G2 h hv hl hf;exact⟨γ',s1,s2,_,s3,rfl⟩
     | _=>cases hl
   | whole b aC =>
     cases t with
     | slice e=>obtain⟨γ',s1,s2,s3⟩:=G2 h hv hl hf;exact⟨γ',s1,s2,_,s3,rfl⟩
     | _=>cases hl
   | part b aC lo n =>
     cases t with
     | slice e=>obtain⟨γ',s1,s2,s3⟩:=G2 h hv hl hf;exact⟨γ',s1,s2,_,s3,rfl⟩
     | _=>cases hl
   | u7 =>
     obtain rfl:=aN hf;obtain hv:[val]=[Value.nilIface]:=hv;obtain rfl:val=.nilIface:=by simpa using hv
     exact⟨γ,h,Ext.refl ..,[.nilIface],(rC hl).1 _ _,by rw[(rC hl).2.2.1]⟩
   | _ =>
     cases t with
     | slice e=>exact absurd hl (by intro k;cases k)
     | _=>cases hl
  ·cases hg
end
end Go.Ge
namespace Go.Ge
open RowKit
section
variable {P:Program} {B:tJ} {N:Nat} {γ:Gh} {σ σ':St} {a:Act} {w:World} {d:Option Nat} {cx:Ctx}
theorem W6{bx:Box}{k:Nat}{c v:aS}{f:aS→Tree aS}(hb:bx.buf=false)(hv:bx.val=v)(h:(IV v k f).run=some c):({ bx with val:=c }:Box).row=bx.row:=by
 obtain⟨val,tid,buf,ro,lk,aC⟩:=bx;subst hb;subst hv;cases val with
 | data t x =>
   obtain⟨y,h1,h2⟩:=bind_some (show((LQ t x k f).bind fun y=>.ret (.data t y)).run=some c from h);obtain rfl:=aN h2;cases t with
   | arr n e=>cases k<;>exact absurd h1 (by intro k;cases k)
   | _=>rfl
 | mix p q =>
   cases k with
   | zero =>
     obtain⟨y,h1,h2⟩:=bind_some (show((f p).bind fun v=>.ret (.mix v q)).run=some c from h);obtain rfl:=aN h2;rfl
   | succ k =>
     obtain⟨y,h1,h2⟩:=bind_some (show((IV q k f).bind fun v=>.ret (.mix p v)).run=some c from h);obtain rfl:=aN h2;rfl
 | _=>exact absurd h (by intro k;cases k)
theorem af5{bx:Box}{e:Ty}{l:List e.den}{i:Int}{y:e.den}(hb:bx.buf=true)(hv:bx.val=.data (.slice e) l):({ bx with val:=.data (.slice e) (vL l i y) }:Box).row=bx.row:=by
 rw[Box.dZ hb hv,Box.dZ (bx:={ bx with val:=.data (.slice e) (vL l i y) }) (l:=vL l i y) hb rfl];simp[vL]
theorem J8{bx:Box}{p:List FP}{v c:aS}(h:(LR bx.buf p bx.val v).run=some c)(h0:p=[]→bx.buf=false→({ bx with val:=v }:Box).row=bx.row) :
  ({ bx with val:=c }:Box).row=bx.row:=by
 unfold LR at h;split at h
 ·rename_i bO;cases p with
  | nil=>obtain rfl:=aN h;exact h0 rfl bO
  | cons s p =>
    cases s with
    | gG k off=>exact W6 bO rfl h
    | idx i size =>
      simp only[zy] at h;split at h
      ·rename_i n e l hv;obtain⟨x,hx,h2⟩:=cl h;obtain⟨z,hz,h3⟩:=bind_some h2;split at h3
       ·obtain rfl:=aN h3;rw[Box.si bO hv];exact Box.si (bx:={ bx with val:=_ }) bO rfl
       ·exact absurd h3 (by intro k;cases k)
      ·exact absurd h (by intro k;cases k)
 ·rename_i bO;split at h
  ·rename_i i size p e l hv;obtain⟨x,hx,h2⟩:=cl h;obtain⟨z,hz,h3⟩:=bind_some h2;split at h3
   ·obtain rfl:=aN h3;exact af5 bO hv
   ·exact absurd h3 (by intro k;cases k)
  ·exact absurd h (by intro k;cases k)
theorem E0(h:dB B N γ σ a w){b aC:Nat}{p:List FP}{fit:aS→Bool}{u:aS}{es:List Value}(hr:(storeAt b aC p fit u σ).run=some σ')(hu:cI γ σ.mem w u .cells es)
  (hlen:∀old,fit old=true→es.length=dn old) (hrow:∀bx:Box,fit bx.val=true→bx.buf=false→({ bx with val:=u }:Box).row=bx.row)
  {blk cap:Nat} (hl:γ.loc b=some (blk,cap)) :
  ∃w',(storeCells ⟨blk,cP p,none⟩ es).run P w=.ok () w'∧dB B N γ σ' a w'∧Ext B γ σ.mem w γ σ'.mem w':=by
 unfold storeAt at hr;split at hr
 case h_2=>exact absurd hr (by intro k;cases k)
 rename_i bx hb;obtain⟨hc,hr2⟩:=aD hr;simp only[dW,nq] at hc;obtain⟨⟨bF,hlk⟩,hro⟩:=hc;obtain⟨old,hn,jP⟩:=bind_some hr2;obtain⟨hfit,oV⟩:=aD jP;obtain⟨c,hs,O6⟩:=bind_some oV;obtain rfl:=aN O6;have hel:=hlen old hfit;have hrw:({ bx with val:=c }:Box).row=bx.row:=J8 hs fun hp bO=>by
  subst hp;rw[bO] at hn;obtain rfl:=aN hn;exact hrow bx hfit bO
 have jt:=h.ok.boxes b bx hb;unfold cR at jt;unfold aao at hn;unfold LR at hs;have hbb:bx.buf=false∨bx.buf=true:=by cases bx.buf<;>simp
 rcases hbb with bO|bO
 ·rw[bO] at jt hn hs;obtain⟨dX,cap',cur,tid,fr,h1,h2,h3,jb,h4⟩:=jt;rw[hl] at h1;obtain⟨rfl,rfl⟩:=e9 (aN h1);obtain⟨k1,k2⟩:=yD h4 hn;have k1':cP p+es.length≤cur.toList.length:=by rw[hel];exact k1
  have hst:=cZ (P:=P) blk (cP p) tid fr es 0 cur w h2 h3 (by simpa using k1') (fun v hv=>hu.one v hv);rw[An] at hst;have hsz:(splice cur.toList (cP p) es).toArray.size=cur.size:=by have:=bS k1';simpa using this
  obtain⟨m1,m2⟩:=h.ok.write hb hro hl h2 (cur':=(splice cur.toList (cP p) es).toArray) (v:=c) hsz hrw
   (fun w' mem' hx hg=>by
    show cR γ mem' w' b { bx with val:=c }
    unfold cR;simp only[bO];exact⟨blk,cap,_,tid,fr,hl,hg,h3.same hsz,jb,by simpa using Bi (h4.ext hx) hn hs (hu.ext hx) hel⟩)
  exact⟨_,hst,h.go m2 m1,m2⟩
 ·rw[bO] at jt hn hs;obtain⟨e,l,h1,h2,h3⟩:=jt;rw[h1] at hn hs;rcases h3 with ⟨h3,_⟩|⟨dX,cap',cur,tid,fr,h3,h4,h5,jb,h6,h7,h8,h9⟩
  ·rw[hl] at h3;cases h3
  ·rw[hl] at h3;obtain⟨rfl,rfl⟩:=e9 (aN h3);cases p with
   | nil=>cases hn
   | cons s p =>
     cases s with
     | gG k off=>cases hn
     | idx i size =>
       obtain⟨hsb,hn2⟩:=aD hn;have hsz:=gz hsb;obtain⟨x,hx,hn3⟩:=cl hn2;obtain⟨x',hx',hs2⟩:=cl hs;obtain rfl:x=x':=aN (hx.symm.trans hx');obtain⟨z,hq,hs3⟩:=bind_some hs2;cases hz:toS e z with
       | none=>rw[hz] at hs3;cases hs3
       | some y =>
         rw[hz] at hs3;obtain rfl:=aN hs3;obtain⟨h0,hx2⟩:=va hx;have hr:=h9 _ x hx2;have hrl:=hr.length;have hi:i.toNat<l.length:=(List.getElem?_eq_some_iff.1 hx2).1;have hm2:(i.toNat+1)*e.size≤cap*e.size:=gM _ (by omega);rw[CF] at hm2;have hrr:cI γ σ.mem w (.data e x) .cells ((cur.toList.drop (i.toNat*e.size)).take e.size):=hr;obtain⟨k1,k2⟩:=yD hrr hn3;rw[hrl] at k1;have hcs:cur.toList.length=cap*e.size:=by simpa using h8
         have hoff:cP (.idx i size::p)=i.toNat*e.size+cP p:=by simp only[cP,hsz]
         have k1':cP (.idx i size::p)+es.length≤cur.toList.length:=by rw[hoff,hel,hcs];omega
         have hst:=cZ (P:=P) blk (cP (.idx i size::p)) tid fr es 0 cur w h4 h5.th (by simpa using k1') (fun v hv=>hu.one v hv);rw[An] at hst;have adq:(splice cur.toList (cP (.idx i size::p)) es).toArray.size=cur.size:=by have:=bS k1';simpa using this
         have e1:=ux cur.toList (i.toNat*e.size) (cP p) e.size es (by rw[hel];exact k1) (by rw[hcs];omega);obtain⟨m1,m2⟩:=h.ok.write hb hro hl h4 (cur':=(splice cur.toList (cP (.idx i size::p)) es).toArray) (v:=.data (.slice e) (vL (α:=e.den) l i y)) adq hrw
          (fun w' mem' hx hg=>by
           show cR γ mem' w' b { bx with val:=.data (.slice e) (vL (α:=e.den) l i y) }
           unfold cR;simp only[bO];refine⟨e,_,rfl,h2,.inr ⟨blk,cap,_,tid,fr,hl,hg,h5.same adq,jb,?_,h7,by rw[adq];exact h8,?_⟩⟩
           ·exact gY (O4 List.length_set) h6
           ·have hzz:=L3 hz (Bi (hrr.ext hx) hn3 hq (hu.ext hx) hel);have:=MI (w:=w') (I:=γ.I) (l:=l) (n:=l.length) (cs:=cur.toList) rfl (by rw[hcs];exact gM _ h6)
             (fun j x hj=>bN.mono hx.I hx.cells (h9 j x hj)) hi hzz
            rw[e1,←hoff] at this;exact this)
         exact⟨_,hst,h.go m2 m1,m2⟩
theorem aay{mem:Nat→Option Box}:∀{t:Ty} {x:t.den} {cs:List Value},bN w γ.I t x cs→cI γ mem w (ac9 t x) .cells cs:=by
 intro t;induction t with
 | pair a b kM nV=>intro x cs h;obtain⟨c1,c2,e,h1,h2⟩:=h;exact⟨c1,c2,e,h1,nV h2⟩
 | _=>intro x cs h;exact h
theorem QM{mem:Nat→Option Box}{v:aS}{cs:List Value}(h:cI γ mem w v .cells cs):cI γ mem w (ada v) .cells cs:=by
 cases v with
 | data t x=>exact aay h
 | _=>exact h
theorem Uw{bx:Box}(hb:bx.buf=false)(hv:ade bx.val=true):bx.row=none:=by
 unfold Box.row;rw[hb];obtain⟨val,tid,buf,ro,lk,aC⟩:=bx;cases val with
 | data t x=>cases t<;>first|rfl|cases hv
 | mix p q=>rfl
 | _=>cases hv
theorem O7(h:dB B N γ σ a w){b aC:Nat}{p:List FP}{n:Nat}{u:aS}{es:List Value}(hr:(uq b aC p n u σ).run=some σ')(hu:cI γ σ.mem w u .cells es)
  (hlen:es.length=n) {blk cap:Nat} (hl:γ.loc b=some (blk,cap)) :
  ∃w',(storeCells ⟨blk,cP p,none⟩ es).run P w=.ok () w'∧dB B N γ σ' a w'∧Ext B γ σ.mem w γ σ'.mem w':=by
 unfold uq at hr;split at hr
 case h_2=>exact absurd hr (by intro k;cases k)
 rename_i bx hb;obtain⟨hc,hr2⟩:=aD hr;simp only[dW,nq] at hc;obtain⟨⟨⟨⟨bF,hlk⟩,hro⟩,bO⟩,hpv⟩:=hc;obtain⟨old,hn,jP⟩:=bind_some hr2;obtain⟨hfit,oV⟩:=aD jP;obtain⟨c,hs,O6⟩:=bind_some oV;obtain⟨hpc,hr6⟩:=aD O6;obtain rfl:=aN hr6;have hel:es.length=dn old:=hlen.trans (gz hfit).symm;have hrw:({ bx with val:=c }:Box).row=bx.row:=(Uw (bx:={ bx with val:=c }) bO hpc).trans (Uw bO hpv).symm;have jt:=h.ok.boxes b bx hb;unfold cR at jt;rw[bO] at jt;obtain⟨dX,cap',cur,tid,fr,h1,h2,h3,jb,h4⟩:=jt;rw[hl] at h1;obtain⟨rfl,rfl⟩:=e9 (aN h1);obtain⟨k1,k2⟩:=yD (QM h4) hn;have k1':cP p+es.length≤cur.toList.length:=by rw[hel];exact k1
 have hst:=cZ (P:=P) blk (cP p) tid fr es 0 cur w h2 h3 (by simpa using k1') (fun v hv=>hu.one v hv);rw[An] at hst;have hsz:(splice cur.toList (cP p) es).toArray.size=cur.size:=by have:=bS k1';simpa using this
 obtain⟨m1,m2⟩:=h.ok.write hb hro hl h2 (cur':=(splice cur.toList (cP p) es).toArray) (v:=c) hsz hrw
  (fun w' mem' hx hg=>by
   show cR γ mem' w' b { bx with val:=c }
   unfold cR;simp only[bO];exact⟨blk,cap,_,tid,fr,hl,hg,h3.same hsz,jb,by simpa using Bi (QM (h4.ext hx)) hn hs (hu.ext hx) hel⟩)
 exact⟨_,hst,h.go m2 m1,m2⟩
theorem CT{ty:TypeId}{blk off n:Nat}{v:Value}{w':World}(hs:(Go.sizeOf ty).run P w=.ok n w)(hn:v.cells.toList.length=n)(hst:(storeCells ⟨blk,off,none⟩ v.cells.toList).run P w=.ok () w') :
  (Instr.storeAt ty (.pointer (some ⟨blk,off,none⟩)) v).run P w=.ok () w':=by
 have hn':v.cells.size=n:=by simpa using hn
 simp only[Instr.storeAt,Instr.sureAddr,storeVar,Sem.run_bind,Sem.run_pure,Result.andThen_ok,hs,hn',ne_eq,not_true_eq_false,EI];exact hst
theorem K6(hc:gA P cx){bf:List Nat}{ty:TypeId}{x y:Operand}(h:dB B N γ σ a w)(hr:(mP cx bf ty (cL σ x) (cL σ y) σ).run=some σ') :
  ∃w' γ',(Instr.storeAt ty (a.eval x) (a.eval y)).run P w=.ok () w'∧dB B N γ' σ' a w'∧Ext B γ σ.mem w γ' σ'.mem w':=by
 have hv:=h.cL x;have hy:=h.cL y;unfold mP at hr;split at hr
 case h_2=>exact absurd hr (by intro k;cases k)
 rename_i b aC p hx;rw[hx] at hv;split at hr
 case h_2=>exact absurd hr (by intro k;cases k)
 rename_i bx hb;obtain⟨bF,hr2⟩:=aD hr;have bF:=gz bF;obtain⟨old,hn,jP⟩:=bind_some hr2;obtain⟨blk,cap,hl,hval⟩:=bC hb bF hv.2;obtain hval:a.eval x=_:=by simpa using hval
 rw[hval];split at jP
 ·rename_i u z;obtain⟨hT,oV⟩:=aD jP;have hT:=jG hT;have hD:=hc.T _ _ hT;cases hq:dD bf 8000000&&adb u (cL σ y) with
  | true =>
    rw[hq] at oV;have how:=(Bool.and_eq_true_iff.1 hq).2;have hyc:cI γ σ.mem w (cL σ y) .cells (a.eval y).cells.toList:=by
     refine hy.pe (fun u' e=>?_) (fun e=>?_)
     ·rw[e] at how;cases how
     ·rw[e] at how;cases how
    have hsz:dn (cL σ y)=u.size:=by
     unfold adb at how;split at how
     ·rename_i e;rw[e];exact aav how
     ·rename_i e;rw[e];exact MO how
     ·cases how
    have QN:(a.eval y).cells.toList.length=u.size:=by rw[hyc.length,hsz]
    obtain⟨w',k1,k2,k3⟩:=O7 (P:=P) h oV hyc QN hl;exact⟨w',γ,CT (hD.sizeOf w) QN k1,k2,k3⟩
  | false =>
  rw[hq] at oV;replace oV:(match Ap σ u (cL σ y) with|some (y,σ)=>storeAt b aC p (aaq u) (.data u y) σ|none=>.fail).run=some σ':=oV;split at oV
  ·rename_i y0 σ1 hg;obtain⟨jC,s1,s2,s3⟩:=oc h hy hg;obtain⟨cs,c1,c2⟩:=s3;obtain hcv:a.eval y=_:=by simpa using c2
   have hcc:(a.eval y).cells.toList=cs:=by rw[hcv];exact uw c1
   obtain⟨iJ,g1,g2,g3⟩:=s2.boxes b bx hb;have hl1:jC.loc b=some (blk,cap):=by
    have hv':iJ.aC=bx.aC:=by
     unfold storeAt at oV;split at oV
     ·rename_i bx2 hb2;rw[g1] at hb2;obtain rfl:=aN hb2;obtain⟨hc,_⟩:=aD oV;simp only[dW] at hc;have:=gz hc.1.1;omega
     ·exact absurd oV (by intro k;cases k)
    rw[(g3 hv').1];exact hl
   obtain⟨w',k1,k2,k3⟩:=E0 (P:=P) s1 oV (u:=.data u y0) (es:=cs) c1 (fun old hf=>by
    unfold aaq at hf;split at hf
    ·rename_i t q;obtain rfl:=Ty.eq_of_beq hf;exact c1.length
    ·cases hf) (fun bx hf bO=>by
    unfold aaq at hf;split at hf
    ·rename_i t q oW;obtain rfl:=Ty.eq_of_beq hf;cases t with
     | arr n e=>rw[Box.si bO oW];exact Box.si (bx:={ bx with val:=_ }) bO rfl
     | _=>unfold Box.row;rw[bO,oW]
    ·cases hf) hl1
   refine⟨w',jC,CT (hD.sizeOf w) ?_ ?_,k2,s2.trans k3⟩
   ·rw[hcc];exact c1.length
   ·rw[hcc];exact k1
  ·exact absurd oV (by intro k;cases k)
 ·obtain⟨hT,oV⟩:=aD jP;simp only[dW] at hT;obtain⟨IL,hrf⟩:=hT;have key:∀{v:aS},zz cx ty v=true→isRef v=true→dn v=1∧(Go.sizeOf ty).run P w=.ok 1 w:=by
   intro v h1 h2;unfold zz at h1;split at h1
   ·cases h2
   ·split at h1
    ·rename_i e hT;exact⟨rfl,(hc.T _ _ hT).sizeOf w⟩
    ·cases h1
   ·exact⟨rfl,(hc.u9 _ h1).2.1 w⟩
   ·exact⟨rfl,(hc.u9 _ h1).2.1 w⟩
   ·exact⟨rfl,(hc.u9 _ h1).2.1 w⟩
   ·cases h1
  obtain⟨h1,hsz⟩:=key IL hrf;have hyc:cI γ σ.mem w (cL σ y) .cells (a.eval y).cells.toList:=by
   refine hy.pe (fun u e=>?_) (fun e=>?_)
   ·rw[e] at hrf;cases hrf
   ·rw[e] at hrf;cases hrf
  have QN:(a.eval y).cells.toList.length=1:=by rw[hyc.length,h1]
  obtain⟨w',k1,k2,k3⟩:=E0 (P:=P) h oV hyc (fun old hf=>by
   simp only[zv,dW] at hf;rcases hf with hf|hf
   ·rw[QN,(key hf.1 hf.2).1]
   ·rw[QN];cases old<;>first|rfl|cases hf) (fun bx hf bO=>by
   simp only[zv,dW] at hf;have e1:∀{v:aS} {bx:Box},(isRef v=true∨Zm v=true)→bx.buf=false→bx.val=v→bx.row=none:=by
    intro v bx h1 h2 h3;unfold Box.row;rw[h2,h3];cases v<;>first|rfl|(rcases h1 with h1|h1<;>cases h1)
   rw[e1 (hf.elim (fun q=>.inl q.2) .inr) bO rfl];exact e1 (bx:={ bx with val:=cL σ y }) (.inl hrf) bO rfl) hl
  exact⟨w',γ,CT hsz QN k1,k2,k3⟩
theorem tV(t:TypeId)(v:Value):(newVar t v).run P w=.ok ⟨w.heap.size,0,none⟩ (w.alloc (.cells v.cells t)):=by
 simp[newVar,newRow]
theorem Eb{mem:Nat→Option Box}{w':World}{b:Nat}{bx:Box}{cap:Nat}:cI (bT γ b (some (w.heap.size,cap))) (cQ mem b bx) w' (.ptr b bx.aC []) .val [.pointer (some ⟨w.heap.size,0,none⟩)] :=
 ⟨⟨_,rfl,rfl⟩,iP (bL _ _) rfl ⟨w.heap.size,cap,by simp[bT],rfl⟩⟩
theorem Ux(hc:gA P cx){elem:TypeId}{nb k:Nat}{t:Ty}(h:dB B N γ σ a w)(hd:k<N)(hT:find cx.T elem=some t)
  (hr:(σ.aQ (nb+k) (.data t t.zero) 0 false fun aC σ=>.ret (σ.put k (.ptr (nb+k) aC []))).run=some σ') :
  p6 P B N γ σ a w (some k) (Instr.alloc elem true (.tuple #[])) σ':=by
 obtain⟨aC,bF,hr2⟩:=eE hr;obtain rfl:=aN hr2;obtain⟨z,hz,hzc⟩:=(hc.T _ _ hT).zero w;obtain⟨m1,m2⟩:=h.ok.newVar (b:=nb+k) (v:=.data t t.zero) (tid:=0) bF (cs:=z.cells) elem (.inl rfl) (by rw[hzc];exact oZ w γ.I t);refine⟨.pointer (some ⟨w.heap.size,0,none⟩),_,_,?_,h.step m2 m1 hd Eb,m2⟩;simp only[Instr.alloc,Sem.run_bind,hz,Result.andThen_ok,tV,Sem.run_pure]
theorem K7(hc:gA P cx){elem:TypeId}{nb k:Nat}(h:dB B N γ σ a w)(hd:k<N)(hT:dD cx.u9 elem=true)
  (hr:(σ.aQ (nb+k) .undef 0 false fun aC σ=>.ret (σ.put k (.ptr (nb+k) aC []))).run=some σ') :
  p6 P B N γ σ a w (some k) (Instr.alloc elem true (.tuple #[])) σ':=by
 obtain⟨aC,bF,hr2⟩:=eE hr;obtain rfl:=aN hr2;obtain⟨z,hz,hone⟩:=(hc.u9 _ hT).2.2;have hz:=hz w;obtain⟨m1,m2⟩:=h.ok.newVar (b:=nb+k) (v:=.undef) (tid:=0) bF (cs:=z.cells) elem (.inl rfl) ⟨z,by cases z<;>first|rfl|(simp[Value.oneCell'] at hone),hone⟩;refine⟨.pointer (some ⟨w.heap.size,0,none⟩),_,_,?_,h.step m2 m1 hd Eb,m2⟩;simp only[Instr.alloc,Sem.run_bind,hz,Result.andThen_ok,tV,Sem.run_pure]
theorem Uy{b aC:Nat}:∀{fs:List p4} {j:Nat} {σ:St} {γ:Gh} {r:aS×St},bK B γ σ.mem w→(mkObj b aC fs j σ).run=some r →
  ∃jC,bK B jC r.2.mem w∧Ext B γ σ.mem w jC r.2.mem w∧r.2.slots=σ.slots ∧
   ∀γ' mem' w',Ext B jC r.2.mem w γ' mem' w'→(∃bx blk cap,mem' b=some bx∧aC≤bx.aC∧γ'.loc b=some (blk,cap))→cI γ' mem' w' r.1 .cells (MF fs):=by
 intro fs;induction fs with
 | nil=>intro j σ γ r h hr;obtain rfl:=aN hr;exact⟨γ,h,Ext.refl _ _ _ _,rfl,fun _ _ _ _ _=>rfl⟩
 | cons f r ih =>
   intro j σ γ q h hr;cases f with
   | dat t =>
     obtain⟨y,h1,h2⟩:=bind_some hr;obtain rfl:=aN h2;obtain⟨jC,k1,k2,k3,k4⟩:=ih h h1;exact⟨jC,k1,k2,k3,fun γ' mem' w' hx hb=>⟨_,_,rfl,oZ _ _ t,k4 γ' mem' w' hx hb⟩⟩
   | one =>
     obtain⟨y,h1,h2⟩:=bind_some hr;obtain rfl:=aN h2;obtain⟨jC,k1,k2,k3,k4⟩:=ih h h1;exact⟨jC,k1,k2,k3,fun γ' mem' w' hx hb=>⟨[.pointer none],_,rfl,rfl,k4 γ' mem' w' hx hb⟩⟩
   | self =>
     obtain⟨y,h1,h2⟩:=bind_some hr;obtain rfl:=aN h2;obtain⟨jC,k1,k2,k3,k4⟩:=ih h h1;refine⟨jC,k1,k2,k3,fun γ' mem' w' hx hb=>⟨[.pointer none],_,rfl,?_,k4 γ' mem' w' hx hb⟩⟩;obtain⟨bx,blk,cap,g1,g2,g3⟩:=hb;exact⟨⟨_,rfl,rfl⟩,bx,g1,g2,fun _=>⟨blk,cap,g3,.inl rfl⟩⟩
   | buf e gd =>
     obtain⟨he,kW⟩:=aD hr;have he':0<e.size:=by simpa using he
     obtain⟨v,bF,hr2⟩:=eE kW;obtain⟨y,h1,h2⟩:=bind_some hr2;obtain rfl:=aN h2;obtain⟨m1,m2⟩:=h.MJ (b:=b*1000+999-j) (e:=e) (tid:=gd) bF he';obtain⟨jC,k1,k2,k3,k4⟩:=ih m1 h1;refine⟨jC,k1,m2.trans k2,k3,fun γ' mem' w' hx hb=>⟨[.slice none 0 0],_,rfl,?_,k4 γ' mem' w' hx hb⟩⟩;refine cI.ext (k2.trans hx) (v:=.whole (b*1000+999-j) v) (m:=.cells) ?_;exact⟨⟨_,rfl,rfl⟩,iP (bL _ _) rfl ⟨e,0,rfl,rfl,.inl ⟨by simp[bT],rfl⟩⟩⟩
theorem K8(hc:gA P cx){elem:TypeId}{nb k:Nat}{fs:List p4}(h:dB B N γ σ a w)(hd:k<N)(hT:find cx.wu elem=some fs)
  (hr:((mkObj (nb+k) (LV σ (nb+k)) fs 0 σ).bind fun r=>r.2.aQ (nb+k) r.1 elem false fun aC σ=>.ret (σ.put k (.ptr (nb+k) aC []))).run=some σ') :
  p6 P B N γ σ a w (some k) (Instr.alloc elem true (.tuple #[])) σ':=by
 obtain⟨r,h1,h2⟩:=bind_some hr;obtain⟨jC,k1,k2,k3,k4⟩:=Uy h.ok h1;obtain⟨aC,bF,hr2⟩:=eE h2;obtain rfl:=aN hr2;obtain⟨z,hz,hzc⟩:=aas (hc.wu _ _ hT) w;have hle:LV σ (nb+k)≤aC:=by
  unfold LV;split
  ·rename_i bx tK;obtain⟨iJ,e1,e2,_⟩:=k2.boxes _ bx tK;have:=bF iJ e1;omega
  ·exact rT _
 let bx:Box:={ val:=r.1,tid:=elem,buf:=false,ro:=false,lk:=false,aC }
 have hw:xw B w (w.alloc (.cells z.cells elem)):=(xw.refl _ _).alloc k1.base _;have hx:=wB (L:=some (w.heap.size,0)) k1 (bx:=bx) bF hw (cS w _);have jt:cR (bT jC (nb+k) (some (w.heap.size,0))) (cQ r.2.mem (nb+k) bx) (w.alloc (.cells z.cells elem)) (nb+k) bx :=
  ⟨w.heap.size,0,z.cells,elem,(0,0),by simp[bT],heap_alloc_new w _,ve _,.inr rfl,by
   rw[hzc];exact k4 _ _ _ hx ⟨bx,w.heap.size,0,bL _ _,hle,by simp[bT]⟩⟩
 have m1:=k1.add bF hw (cS w _) (fun blk k e=>by obtain⟨rfl,rfl⟩:=e9 (aN e);exact⟨cU _,by simp⟩) jt;refine⟨.pointer (some ⟨w.heap.size,0,none⟩),_,_,?_,?_,k2.trans hx⟩
 ·simp only[Instr.alloc,Sem.run_bind,hz,Result.andThen_ok,tV,Sem.run_pure]
 ·have:=h.step (k2.trans hx) m1 hd (Eb (bx:=bx));rw[←k3] at this;exact this
theorem J9{b j:Nat}{v:aS}{σ:St}{r:aS×St}(hr:(oX b [] j v σ).run=some r):r=(v,σ):=by
 cases v with
 | data t x=>cases t<;>first|(obtain rfl:=aN hr;rfl)|cases hr
 | _=>cases hr
theorem G4{b j:Nat}{f:p4}{q:List p4}{v:aS}{σ:St}{r:aS×St}(hr:(oX b (f::q) j v σ).run=some r) :
  (∃x u y,v=.mix x u∧(oX b q (j+1) u σ).run=some y∧r=(.mix x y.1,y.2)) ∨
  (∃e gd u,v=.mix .qd u∧0<e.size∧(σ.aQ (b*1000+999-j) (.data (.slice e) []) gd true fun aC σ=>(oX b q (j+1) u σ).bind fun x=>.ret (.mix (.whole (b*1000+999-j) aC) x.1,x.2)).run=some r):=by
 cases v with
 | mix a u =>
   cases f with
   | dat t =>
     cases a with
     | data t' z =>
       obtain⟨y,h1,h2⟩:=bind_some (show((oX b q (j+1) u σ).bind fun x=>.ret (.mix (.data t' z) x.1,x.2)).run=some r from hr);exact .inl ⟨_,u,y,rfl,h1,(aN h2).symm⟩
     | _=>cases hr
   | one =>
     cases a with
     | tO =>
       obtain⟨y,h1,h2⟩:=bind_some (show((oX b q (j+1) u σ).bind fun x=>.ret (.mix .tO x.1,x.2)).run=some r from hr);exact .inl ⟨_,u,y,rfl,h1,(aN h2).symm⟩
     | _=>cases hr
   | buf e gd =>
     cases a with
     | qd =>
       obtain⟨he,kW⟩:=aD hr;exact .inr ⟨e,gd,u,rfl,by simpa using he,kW⟩
     | _=>cases hr
   | self=>cases a<;>cases hr
 | _=>cases f<;>cases hr
theorem K9(hc:gA P cx){elem:TypeId}{nb k:Nat}{bf:List Nat}{t:Ty}(h:dB B N γ σ a w)(hd:k<N)(hT:find cx.T elem=some t)
  (hr:(wX nb bf k t σ).run=some σ'):p6 P B N γ σ a w (some k) (Instr.alloc elem true (.tuple #[])) σ':=by
 unfold wX at hr;split at hr
 ·rename_i e _;obtain⟨he,kW⟩:=aD hr;have he':0<e.size:=by simpa using he
  obtain⟨v,bF,hr2⟩:=eE kW;obtain⟨m1,m2⟩:=h.ok.MJ (b:=(nb+k)*1000+999) (e:=e) (tid:=0) bF he';obtain⟨aC,ajJ,jP⟩:=eE hr2;obtain rfl:=aN jP;obtain⟨i,z,i1,i2,i3,i4⟩:=(hc.T _ _ hT).info;have hz:(zeroValue elem).run P w=.ok z w:=by simp[zeroValue,typeInfo,i1,i3]
  have MN:cI (bT γ ((nb+k)*1000+999) none) (cQ σ.mem ((nb+k)*1000+999) { val:=.data (.slice e) ([]:List e.den),tid:=0,buf:=true,ro:=false,lk:=false,aC:=v }) w (.whole ((nb+k)*1000+999) v) .cells z.cells.toList:=by
   rw[i4];exact⟨⟨_,rfl,rfl⟩,iP (bL _ _) rfl ⟨e,0,rfl,rfl,.inl ⟨by simp[bT],rfl⟩⟩⟩
  obtain⟨n1,n2⟩:=m1.newVar (b:=nb+k) (v:=.whole ((nb+k)*1000+999) v) (tid:=0) ajJ (cs:=z.cells) elem (.inl rfl) MN;refine⟨.pointer (some ⟨w.heap.size,0,none⟩),_,_,?_,h.step (m2.trans n2) n1 hd Eb,m2.trans n2⟩;simp only[Instr.alloc,Sem.run_bind,hz,Result.andThen_ok,tV,Sem.run_pure]
 ·exact Ux hc h hd hT hr
theorem O8{b:Nat}:∀{fs:List p4} {j:Nat} {v:aS} {σ:St} {γ:Gh} {r:aS×St} {cs:List Value},bK B γ σ.mem w→cI γ σ.mem w v .cells cs→(oX b fs j v σ).run=some r →
  ∃jC,bK B jC r.2.mem w∧Ext B γ σ.mem w jC r.2.mem w∧r.2.slots=σ.slots∧cI jC r.2.mem w r.1 .cells cs:=by
 intro fs;induction fs with
 | nil =>
   intro j v σ γ r cs h hv hr;obtain rfl:=J9 hr;exact⟨γ,h,Ext.refl _ _ _ _,rfl,hv⟩
 | cons f q ih =>
   intro j v σ γ r cs h hv hr;rcases G4 hr with ⟨x,u,y,rfl,h1,rfl⟩|⟨e,gd,u,rfl,he,kW⟩
   ·obtain⟨c1,c2,rfl,v1,v2⟩:=hv;obtain⟨jC,k1,k2,k3,k4⟩:=ih h v2 h1;exact⟨jC,k1,k2,k3,c1,c2,rfl,v1.ext k2,k4⟩
   ·obtain⟨k,bF,hr2⟩:=eE kW;obtain⟨y,h1,h2⟩:=bind_some hr2;obtain rfl:=aN h2;obtain⟨c1,c2,rfl,v1,v2⟩:=hv;obtain⟨m1,m2⟩:=h.MJ (b:=b*1000+999-j) (e:=e) (tid:=gd) bF he;obtain⟨jC,k1,k2,k3,k4⟩:=ih m1 (v2.ext m2) h1;obtain rfl:c1=[.slice none 0 0]:=v1;refine⟨jC,k1,m2.trans k2,k3,[.slice none 0 0],c2,rfl,?_,k4⟩;refine cI.ext k2 (v:=.whole (b*1000+999-j) k) (m:=.cells) ?_;exact⟨⟨_,rfl,rfl⟩,iP (bL _ _) rfl ⟨e,0,rfl,rfl,.inl ⟨by simp[bT],rfl⟩⟩⟩
theorem O9{elem:TypeId}{nb k:Nat}{x:Operand}{fs:List p4}(h:dB B N γ σ a w)(hd:k<N)(hu:cL σ x≠.undef)(ht:∀u,cL σ x≠.FQ u)
  (hr:((oX (nb+k) fs 0 (cL σ x) σ).bind fun r=>r.2.aQ (nb+k) r.1 elem false fun aC σ=>.ret (σ.put k (.ptr (nb+k) aC []))).run=some σ') :
  p6 P B N γ σ a w (some k) (Instr.box elem (a.eval x)) σ':=by
 obtain⟨r,h1,h2⟩:=bind_some hr;obtain⟨jC,k1,k2,k3,k4⟩:=O8 h.ok ((h.cL x).pe ht (fun e=>absurd e hu)) h1;obtain⟨aC,bF,hr2⟩:=eE h2;obtain rfl:=aN hr2;obtain⟨m1,m2⟩:=k1.newVar (b:=nb+k) (v:=r.1) (tid:=elem) bF (cs:=(a.eval x).cells) elem (.inr rfl) k4;refine⟨.pointer (some ⟨w.heap.size,0,none⟩),_,_,?_,?_,k2.trans m2⟩
 ·simp only[Instr.box,Sem.run_bind,tV,Result.andThen_ok,Sem.run_pure]
 ·have:=h.step (k2.trans m2) m1 hd Eb;rw[←k3] at this;exact this
theorem aaz{elem:TypeId}{nb k:Nat}{x:Operand}(h:dB B N γ σ a w)(hd:k<N)(hu:cL σ x≠.undef)(ht:∀u,cL σ x≠.FQ u)
  (hr:(σ.aQ (nb+k) (cL σ x) 0 false fun aC σ=>.ret (σ.put k (.ptr (nb+k) aC []))).run=some σ') :
  p6 P B N γ σ a w (some k) (Instr.box elem (a.eval x)) σ':=by
 obtain⟨aC,bF,hr2⟩:=eE hr;obtain rfl:=aN hr2;obtain⟨m1,m2⟩:=h.ok.newVar (b:=nb+k) (v:=cL σ x) (tid:=0) bF (cs:=(a.eval x).cells) elem (.inl rfl) ((h.cL x).pe ht (fun e=>absurd e hu));refine⟨.pointer (some ⟨w.heap.size,0,none⟩),_,_,?_,h.step m2 m1 hd Eb,m2⟩;simp only[Instr.box,Sem.run_bind,tV,Result.andThen_ok,Sem.run_pure]
theorem af6{mem:Nat→Option Box}:∀{u v:aS} {k:Nat} {vs:List Value},cI γ mem w u .many vs→nth u k=some v→∃x,vs[k]?=some x∧cI γ mem w v .val [x]:=by
 intro u;induction u with
 | mix p q W4 Uv =>
   intro v k vs h hn;obtain⟨c,r,rfl,h1,h2⟩:=h;cases k with
   | zero=>obtain rfl:=aN hn;exact⟨c,rfl,h1⟩
   | succ k=>obtain⟨x,hx,hr⟩:=Uv h2 hn;exact⟨x,by simpa using hx,hr⟩
 | _=>intro v k vs h hn;exact absurd hn (by intro k;cases k)
theorem Pb{x:Operand}{k:Nat}{vs v:aS}(h:dB B N γ σ a w)(hd:∀k,d=some k→k<N)(hx:cL σ x=.FQ vs)(hn:nth vs k=some v) :
  p6 P B N γ σ a w d (Instr.extract (a.eval x) k) (σ.aW d v):=by
 have hv:=h.cL x;rw[hx] at hv;obtain⟨arr,h1,h2⟩:=hv;obtain h1:a.eval x=_:=by simpa using h1
 obtain⟨y,hy,hr⟩:=af6 h2 hn;refine bU h hd (x:=y) ?_ hr;rw[h1];have:arr[k]?=some y:=by simpa using hy
 simp only[Instr.extract,this,Sem.run_pure]
theorem adr:∀{ops:List Operand} {cs:List (Nat×Nat)},dB B N γ σ a w→IY (ops.map (cL σ))=some cs→cs.length=ops.length ∧
  ∀(i:Nat) b aC,cs[i]?=some (b,aC)→n9 σ.mem b aC fun _=>∃blk cap,γ.loc b=some (blk,cap)∧(ops.map a.eval)[i]?=some (.pointer (some ⟨blk,0,none⟩)):=by
 intro ops;induction ops with
 | nil=>intro cs h hc;obtain rfl:=aN hc;exact⟨rfl,fun i b aC hi=>by cases hi⟩
 | cons o r ih =>
   intro cs h hc;have ho:=h.cL o;simp only[JY] at hc;unfold IY at hc;split at hc
   ·rename_i heq;cases heq
   ·rename_i b0 af7 r0 heq;injection heq with q1 q2
    subst q2;rw[q1] at ho;cases hr:IY (r.map (cL σ)) with
    | none=>rw[hr] at hc;cases hc
    | some cs' =>
      rw[hr] at hc;obtain rfl:=aN hc;obtain⟨i1,i2⟩:=ih h hr;refine⟨by simp[i1],fun i b aC hi=>?_⟩;cases i with
      | zero =>
        obtain⟨rfl,rfl⟩:=e9 (aN hi);obtain⟨bx,k1,k2,k3⟩:=ho.2;refine⟨bx,k1,k2,fun e=>?_⟩;obtain⟨blk,cap,j1,j2⟩:=k3 e;obtain j2:a.eval o=_:=by simpa using j2
        exact⟨blk,cap,j1,by simp[j2,cP]⟩
      | succ i =>
        have:=i2 i b aC (by simpa using hi);simpa using this
   ·cases hc
theorem MQ{f:Nat}{caps:Array Operand}{cs:List (Nat×Nat)}(h:dB B N γ σ a w)(hd:∀k,d=some k→k<N)(hcs:IY (caps.toList.map (cL σ))=some cs) :
  p6 P B N γ σ a w d (Instr.makeFunc (.func f) #[] (caps.map a.eval)) (σ.aW d (.fn f cs)):=by
 obtain⟨h1,h2⟩:=adr h hcs;refine bU h hd (x:=.func (.func f) #[] (caps.map a.eval)) rfl ?_;refine⟨caps.map a.eval,rfl,by rw[h1];simp,fun i b aC hi=>?_⟩;obtain⟨bx,k1,k2,k3⟩:=h2 i b aC hi;refine⟨bx,k1,k2,fun e=>?_⟩;obtain⟨blk,cap,j1,j2⟩:=k3 e;exact⟨blk,cap,j1,by simpa using j2⟩
end
end Go.Ge
