/- A ghost interpreter of the model's code, and that it tells the truth: part 3. It says of a function of plain data what a call of it comes to. -/
import Derived.Test.YtdpbdiikloedbaaGreatDoorGeB
set_option linter.unusedVariables false
set_option linter.unusedSimpArgs false
set_option linter.unusedSectionVars false
namespace Go.Ge
open RowKit
section
variable {P:Program} {B:qq} {N:Nat} {γ:Gh} {σ σ':St} {a:Act} {w:World} {d:Option Nat} {cx:Ctx}
theorem IC{s:TypeId}{fs:Array Field}{k:Nat}{f:Field}{u:Ty}(hs:P.underlying s=some (.struct fs))(hf:fs.toList[k]?=some f)(hu:Den P u f.type)(h0:0<u.size)(blk off:Nat) :
  (Instr.fieldAt s (.pointer (some ⟨blk,off,none⟩)) k).run P w=.ok (.pointer (some ⟨blk,off+f.offset,none⟩)) w:=by
 have hf':fs[k]?=some f:=by simpa using hf
 have hz:¬(u.size=0):=by omega
 simp only[Instr.fieldAt,Sem.run_bind,run_underlying hs,Result.andThen_ok,hf',Instr.sureAddr,Sem.run_pure,fieldPlace,hu.sizeOf w,bH hz,addr_add]
theorem PT{s:TypeId}{fs:Array Field}{k:Nat}{f:Field}{i:TypeInfo}(hs:P.underlying s=some (.struct fs))(hf:fs.toList[k]?=some f)(hi:P.info? f.type=some i)(h0:0<i.size)(blk off:Nat) :
  (Instr.fieldAt s (.pointer (some ⟨blk,off,none⟩)) k).run P w=.ok (.pointer (some ⟨blk,off+f.offset,none⟩)) w:=by
 have hf':fs[k]?=some f:=by simpa using hf
 have hz:¬(i.size=0):=by omega
 have hsz:(Go.sizeOf f.type).run P w=.ok i.size w:=by simp[Go.sizeOf,typeInfo,hi]
 simp only[Instr.fieldAt,Sem.run_bind,run_underlying hs,Result.andThen_ok,hf',Instr.sureAddr,Sem.run_pure,fieldPlace,hsz,bH hz,addr_add]
theorem D5{t:Ty}{s:TypeId}(ht:Den P t s){k:Nat}{u:Ty}{o:Nat}(hu:uX t k=some u)(ho:ja t k=some o) :
  ∃(fs:Array Field) (f:Field),P.underlying s=some (.struct fs)∧fs.toList[k]?=some f∧f.offset=o∧Den P u f.type∧0<u.size:=by
 cases t with
 | pair a b =>
   obtain⟨fs,h1,h2,_⟩:=ht.pair;obtain⟨f,k1,k2,k3,k4⟩:=h2.at hu ho;exact⟨fs,f,h1,k1,by omega,k3,k4⟩
 | _=>cases k<;>cases hu
theorem CO(hc:eW P cx){s:TypeId}{x:Operand}{k:Nat}(h:cF B N γ σ a w)(hd:∀k,d=some k→k<N)(hr:(eB cx d s (cc σ x) k σ).run=some σ') :
  mV P B N γ σ a w d (Instr.fieldAt s (a.eval x) k) σ':=by
 have hv:=h.cc x;unfold eB at hr;split at hr
 ·rename_i u y hx;rw[hx] at hv;obtain⟨hb,hr2⟩:=aB hr;have ht:=hc.T _ _ (iw hb);split at hr2
  ·rename_i o t z hf;obtain rfl:=aG hr2;obtain⟨blk,off,cs,h1,h2,h3⟩:=hv;obtain h1:a.eval x=_:=by simpa using h1
   obtain⟨t',z',e1,e2,e3,e4,e5⟩:=D4 (w:=w) h2 (show oq u y k=some (o,.data t z) from hf);cases e1;obtain⟨fs,f,g1,g2,g3,g4,g5⟩:=D5 ht e2 e3;refine bC h hd (by rw[h1];exact IC g1 g2 g4 g5 blk off) ⟨blk,off+f.offset,(cs.drop o).take t.size,rfl,e5,fun j v hj=>?_⟩;rw[uo] at hj;split at hj
   ·rw[ni] at hj;have:=h3 _ v hj;rw[g3,AR];exact this
   ·cases hj
  ·cases hr2
 ·rename_i b aA p hx;rw[hx] at hv;obtain⟨hb,hr2⟩:=aB hr;obtain⟨bx,qs,bh⟩:=jB hb;split at hr2
  ·rename_i t hT;split at hr2
   ·rename_i off u ho hu;obtain rfl:=aG hr2;obtain⟨blk,cap,hl,hval⟩:=aV qs bh hv.2;obtain hval:a.eval x=_:=by simpa using hval
    obtain⟨fs,f,g1,g2,g3,g4,g5⟩:=D5 (hc.T _ _ hT) hu ho;refine bC h hd (by rw[hval];exact IC g1 g2 g4 g5 blk (ck p)) ⟨⟨_,rfl,rfl⟩,bx,qs,by omega,fun _=>⟨blk,cap,hl,?_⟩⟩;rw[Bb,g3];simp[ck]
   ·cases hr2
  ·split at hr2
   ·rename_i fs hO;split at hr2
    ·rename_i off ho;obtain rfl:=aG hr2;obtain⟨blk,cap,hl,hval⟩:=aV qs bh hv.2;obtain hval:a.eval x=_:=by simpa using hval
     obtain⟨gs,f,i,g1,g2,g3,g4,g5⟩:=ab1 (hc.qn _ _ hO) ho;refine bC h hd (by rw[hval];exact PT g1 g2 g4 g5 blk (ck p)) ⟨⟨_,rfl,rfl⟩,bx,qs,by omega,fun _=>⟨blk,cap,hl,?_⟩⟩;rw[Bb,g3];simp[ck]
    ·cases hr2
   ·cases hr2
 ·cases hr
theorem Se(hc:eW P cx){xt:TypeId}{k o:Nat}{u:Ty}{y:u.den}{v:aO}{val:Value}(hu:find cx.T xt=some u)(hv:b6 γ σ.mem w (.data u y) .val [val])(hf:lH (.data u y) k=some (o,v)) :
  ∃z,(Instr.field xt val k).run P w=.ok z w∧b6 γ σ.mem w v .val [z]:=by
 have ht:=hc.T _ _ hu;obtain⟨cs,h1,rfl⟩:=dA.1 hv;obtain⟨t',z',rfl,e2,e3,e4,e5⟩:=D4 (w:=w) h1 hf;obtain⟨fs,f,g1,g2,g3,g4,g5⟩:=D5 ht e2 e3;have aha:u.isAgg=true:=by cases u<;>first|rfl|(cases k<;>cases e2)
 refine⟨bR t' ((cs.drop o).take t'.size),?_,⟨_,e5,rfl⟩⟩;have hf':fs[k]?=some f:=by simpa using g2
 have hp:=Co (P:=P) (w:=w) g4 (cs:=cs.toArray) (off:=f.offset) (by rw[g3];simpa using e4) sn;simp only[bR,aha,fy,Instr.field,Sem.run_bind,run_underlying g1,Result.andThen_ok,hf',asAgg,Sem.run_pure,hp];rw[g3]
theorem lK{t eT:TypeId}{sz:Nat}(ht:P.underlying t=some (.slice eT))(hs:(Go.sizeOf eT).run P w=.ok sz w)(blk off len cap:Nat)(k:IntKind){i:Int}(h0:0≤i)(h1:i<len) :
  (Instr.indexAt t (.slice (some ⟨blk,off,none⟩) len cap) (.int k i)).run P w=.ok (.pointer (some ⟨blk,off+i.toNat*sz,none⟩)) w:=by
 simp only[Instr.indexAt,asIntOf,Sem.run_bind,Sem.run_pure,Result.andThen_ok,run_underlying ht,Lb,h0,h1,nk,hs,addr_add]
theorem Ao{t eT:TypeId}{sz n:Nat}(ht:P.underlying t=some (.array n eT))(hs:(Go.sizeOf eT).run P w=.ok sz w)(blk off:Nat)(k:IntKind){i:Int}(h0:0≤i)(h1:i<n) :
  (Instr.indexAt t (.pointer (some ⟨blk,off,none⟩)) (.int k i)).run P w=.ok (.pointer (some ⟨blk,off+i.toNat*sz,none⟩)) w:=by
 simp only[Instr.indexAt,asIntOf,Sem.run_bind,Sem.run_pure,Result.andThen_ok,run_underlying ht,Instr.sureAddr,Lb,h0,h1,nk,hs,addr_add]
theorem Bd{i n:Int}(h:within i n=true):0≤i∧i<n:=by
 simp only[within,dW,zf] at h;exact h
theorem iE{i j n:Int}(h:inside i j n=true):0≤i∧i≤j∧j≤n:=by
 simp only[inside,dW,zf] at h;exact⟨h.1.1,h.1.2,h.2⟩
theorem E1{b aA:Nat}{e:Ty}{n:Int}(h:zi σ b aA=some (e,n)):∃(bx:bE) (k:Nat),σ.mem b=some bx∧bx.aA=aA∧bx.row=some (e,k)∧n=k:=by
 unfold zi at h;split at h
 ·rename_i bx hb;cases bh:Nat.beq bx.aA aA with
  | false=>rw[bh] at h;cases h
  | true =>
    rw[bh] at h;simp only[fy] at h;split at h
    ·rename_i e' l bu hval;obtain⟨rfl,rfl⟩:=ec (aG h);exact⟨bx,_,hb,fu bh,by rw[bE.row,bu,hval],rfl⟩
    ·rename_i n' e' l bu hval;obtain⟨rfl,rfl⟩:=ec (aG h);exact⟨bx,_,hb,fu bh,by rw[bE.row,bu,hval],rfl⟩
    ·cases h
 ·cases h
theorem bE.dh{bx:bE}{e:Ty}{l:List e.den}(hb:bx.buf=true)(hv:bx.val=.data (.slice e) l):bx.row=some (e,l.length):=by rw[bE.row,hb,hv]
theorem bE.pF{bx:bE}{e:Ty}{n:Nat}{l:(Ty.arr n e).den}(hb:bx.buf=false)(hv:bx.val=.data (.arr n e) l):bx.row=some (e,n):=by rw[bE.row,hb,hv]
theorem zq(hc:eW P cx){t e:Nat}(h:OZ cx t=some e):P.underlying t=some (.slice e)∧cC cx.oX e=true:=by
 unfold OZ at h;split at h
 ·cases h
 ·split at h
  ·rename_i u hu;cases hm:cC cx.oX u with
   | false=>rw[hm] at h;cases h
   | true =>
     rw[hm] at h;obtain rfl:=aG h;exact⟨hc.els _ _ hu,hm⟩
  ·cases h
theorem UD{b aA:Nat}{i:Int}:∀{m k:Nat},(Lh d b aA σ i m k).run=some σ'→∃j:Nat,k≤j∧j<k+m∧i=j∧σ'=σ.aP d (.ptr b aA [.GX j j]):=by
 intro m;induction m with
 | zero=>intro k hr;cases hr
 | succ m ih =>
   intro k hr;have hn:=fL hr;cases hi:bI i k with
   | true =>
     rw[hi] at hn;obtain rfl:=aG hn;exact⟨k,mq _,by omega,by simpa [bI] using hi,rfl⟩
   | false =>
     rw[hi] at hn;obtain⟨j,h1,h2,h3,h4⟩:=ih hn;exact⟨j,by omega,by omega,h3,h4⟩
theorem ID{q:List D0}(h:KK q=true):ck q=0:=by
 unfold KK at h;split at h
 ·simp[ck,fu h]
 ·cases h
theorem tO(hc:eW P cx){ty:TypeId}{x:Operand}{ki:IntKind}{i:Int}(h:cF B N γ σ a w)(hd:∀k,d=some k→k<N)(hr:(dN cx d ty (cc σ x) i σ).run=some σ') :
  mV P B N γ σ a w d (Instr.indexAt ty (a.eval x) (.int ki i)) σ':=by
 have hv:=h.cc x;unfold dN at hr;split at hr
 ·rename_i u e l hT hx;rw[hx] at hv;obtain⟨hb,hr2⟩:=aB hr;obtain rfl:=Ty.eq_of_beq hb;obtain⟨y,hy,iD⟩:=bS hr2;obtain rfl:=aG iD;obtain⟨h0,hy2⟩:=si hy;obtain⟨eT,k1,k2,k3,k4⟩:=(hc.T _ _ hT).slice;obtain⟨cs,h1,hval⟩:=dA.1 hv;have hi:i.toNat<List.length (α:=u.den) l:=(List.getElem?_eq_some_iff.1 hy2).1;rcases h1 with ⟨_,h1⟩|⟨blk,off,cap,h1,h2,h3,h4⟩
  ·exfalso;have:List.length (α:=u.den) l=0:=by rw[show l=([]:List u.den) from h1];rfl
   omega
  ·rw[h1] at hval;have IB:a.eval x=.slice (some ⟨blk,off,none⟩) (List.length (α:=u.den) l) cap:=hval;obtain⟨es,g1,g2,g3⟩:=h4 _ y hy2;refine bC h hd (by rw[IB];exact lK k1 (k2.sizeOf w) blk off _ cap ki h0 (by omega)) ⟨blk,off+i.toNat*u.size,es,rfl,g3,fun j v hj=>?_⟩;exact g2 j v hj
 ·rename_i m u n e l hT hx;rw[hx] at hv;obtain⟨hb,hr2⟩:=aB hr;simp only[dW] at hb;obtain rfl:=Ty.eq_of_beq hb.1;obtain rfl:=fu hb.2;obtain⟨y,hy,iD⟩:=bS hr2;obtain rfl:=aG iD;obtain⟨h0,hy2⟩:=si hy;obtain⟨eT,k1,k2,k3⟩:=(hc.T _ _ hT).arr;obtain⟨blk,off,cs,h1,h2,h3⟩:=hv;obtain h1:a.eval x=_:=by simpa using h1
  have hi:i.toNat<m:=by have:=(List.getElem?_eq_some_iff.1 hy2).1;have:=h2.1;omega
  have mh:=h2.2.2 _ y hy2;refine bC h hd (by rw[h1];exact Ao k1 (k2.sizeOf w) blk off ki h0 (by omega)) ⟨blk,off+i.toNat*u.size,_,rfl,mh,fun j v hj=>?_⟩;rw[uo] at hj;split at hj
  ·rw[ni] at hj;have:=h3 _ v hj;rw[AR];exact this
  ·cases hj
 ·rename_i u b aA hT hx;rw[hx] at hv;split at hr
  ·rename_i e n he;obtain⟨hb,hr2⟩:=aB hr;obtain rfl:=Ty.eq_of_beq hb;obtain⟨hw,iD⟩:=bY hr2;obtain rfl:=aG iD;obtain⟨h0,h1⟩:=Bd hw;obtain⟨bx,k,qs,bh,hrow,rfl⟩:=E1 he;obtain⟨eT,k1,k2,k3,k4⟩:=(hc.T _ _ hT).slice;obtain⟨e',n',g1,g2,g3⟩:=aV qs bh hv.2;rw[hrow] at g2;obtain⟨rfl,rfl⟩:=ec (aG g2);rcases g3 with ⟨g3,g4⟩|⟨blk,cap,g3,g4⟩
   ·exfalso;have ig:=h.ok.boxes b bx qs;rw[cr,g1] at ig;obtain⟨e2,l,j1,j2,j3⟩:=ig;rcases j3 with ⟨_,j4⟩|⟨_,_,_,_,_,j3,_⟩
    ·rw[bE.dh g1 j1,j4] at hrow;have:0=k:=by
      have:=(ec (aG hrow)).2;simpa using this
     omega
    ·rw[g3] at j3;cases j3
   ·obtain g4:a.eval x=_:=by simpa using g4
    refine bC h hd (by rw[g4];exact lK k1 (k2.sizeOf w) blk 0 _ cap ki h0 h1) ⟨⟨_,rfl,rfl⟩,bx,qs,by omega,fun _=>⟨blk,cap,g3,by simp[ck]⟩⟩
  ·cases hr
 ·rename_i u b aA lo n hT hx;rw[hx] at hv;split at hr
  ·rename_i e n2 he;obtain⟨hb,hr2⟩:=aB hr;obtain rfl:=Ty.eq_of_beq hb;obtain⟨hw,iD⟩:=bY hr2;obtain rfl:=aG iD;obtain⟨h0,h1⟩:=Bd hw;obtain⟨bx,k,qs,bh,hrow,rfl⟩:=E1 he;obtain⟨eT,k1,k2,k3,k4⟩:=(hc.T _ _ hT).slice;obtain⟨e',n',g2,g3,g4,g5,base,cap,g6,g7,g8,gF,g9⟩:=aV qs bh hv.2;rw[hrow] at g2;obtain⟨rfl,rfl⟩:=ec (aG g2);rcases g9 with g9|⟨blk,c,g9,g10⟩
   ·omega
   ·obtain g6:a.eval x=_:=by simpa using g6
    refine bC h hd (by rw[g6,g10];exact lK k1 (k2.sizeOf w) blk _ _ cap ki h0 (by omega)) ⟨⟨_,rfl,rfl⟩,bx,qs,by omega,fun _=>⟨blk,c,g9,?_⟩⟩;have:(plus lo i).toNat=lo.toNat+i.toNat:=by simp only[plus];omega
    simp only[ck,this,gi,yf]
  ·cases hr
 ·rename_i m u b aA p hT hx;rw[hx] at hv;obtain⟨hb,hr2⟩:=aB hr;obtain⟨bx,qs,bh⟩:=jB hb;obtain⟨hw,iD⟩:=bY hr2;obtain rfl:=aG iD;obtain⟨h0,h1⟩:=Bd hw;obtain⟨eT,k1,k2,k3⟩:=(hc.T _ _ hT).arr;obtain⟨blk,cap,hl,hval⟩:=aV qs bh hv.2;obtain hval:a.eval x=_:=by simpa using hval
  refine bC h hd (by rw[hval];exact Ao k1 (k2.sizeOf w) blk _ ki h0 h1) ⟨⟨_,rfl,rfl⟩,bx,qs,by omega,fun _=>⟨blk,cap,hl,?_⟩⟩;rw[Bb];simp[ck]
 ·rename_i b aA q e0 k0 lo n hT hx;rw[hx] at hv;split at hr
  ·rename_i e he;obtain⟨hb,hr2⟩:=aB hr;simp only[dW,zf] at hb;obtain⟨⟨hq,rfl⟩,hl⟩:=hb;obtain⟨bx,qs,bh⟩:=jB hl;obtain⟨k1,k2⟩:=zq hc he;obtain⟨j,_,hj,rfl,rfl⟩:=UD hr2;obtain⟨_,blk,c,g1,g2,g3,g4,base,cap,g5,g6,g7⟩:=aV qs bh hv.2;obtain g5:a.eval x=_:=by simpa using g5
   rcases g7 with g7|g7
   ·subst g7;simp at hj
   ·rw[ID hq] at g7;have hj':((j:Nat):Int)<(n.toNat:Int):=by omega
    refine bC h hd (by rw[g5,g7];exact lK k1 ((hc.oX _ k2).2.1 w) blk _ _ cap ki (by omega) hj') ⟨⟨_,rfl,rfl⟩,bx,qs,by omega,fun _=>⟨blk,c,g1,?_⟩⟩;simp[ck]
  ·cases hr
 ·cases hr
theorem JF(hc:eW P cx){ty:TypeId}{x:Operand}{ki:IntKind}{i:Int}(h:cF B N γ σ a w)(hd:∀k,d=some k→k<N)(hr:(kK cx d ty (cc σ x) i σ).run=some σ') :
  mV P B N γ σ a w d (Instr.indexAt ty (a.eval x) (.int ki i)) σ':=by
 have hv:=h.cc x;unfold kK at hr;split at hr
 ·rename_i b aA q e0 k0 lo n e hx he;rw[hx] at hv;obtain⟨hb,hr2⟩:=aB hr;simp only[dW,zf] at hb;obtain⟨⟨hq,rfl⟩,hl⟩:=hb;obtain⟨bx,qs,bh⟩:=jB hl;obtain⟨k1,k2⟩:=zq hc he;split at hr2
  ·rename_i j;obtain⟨hj,iD⟩:=aB hr2;obtain rfl:=aG iD;have hj:=yd hj;obtain⟨_,blk,c,g1,g2,g3,g4,base,cap,g5,g6,g7⟩:=aV qs bh hv.2;obtain g5:a.eval x=_:=by simpa using g5
   rcases g7 with g7|g7
   ·subst g7;omega
   ·rw[ID hq] at g7;have hj':((j:Nat):Int)<(n.toNat:Int):=by omega
    show mV P B N γ σ a w d (Instr.indexAt ty (a.eval x) (.int ki (j:Int))) _
    refine bC h hd (by rw[g5,g7];exact lK k1 ((hc.oX _ k2).2.1 w) blk _ _ cap ki (by omega) hj') ⟨⟨_,rfl,rfl⟩,bx,qs,by omega,fun _=>⟨blk,c,g1,?_⟩⟩;simp[ck]
  ·cases hr2
 ·exact tO hc h hd hr
theorem u8_in(b:UInt8):IntKind.u8.min≤u8 b∧u8 b≤IntKind.u8.max:=by
 have:=b.toNat_lt;have h1:IntKind.u8.min=0:=by decide
 have h2:IntKind.u8.max=255:=by decide
 simp only[u8,h1,h2];omega
theorem JG(hc:eW P cx){ty:TypeId}{x:Operand}{ki:IntKind}{i:Int}(h:cF B N γ σ a w)(hd:∀k,d=some k→k<N)(hr:(kL cx d ty (cc σ x) i σ).run=some σ') :
  mV P B N γ σ a w d (Instr.index ty (a.eval x) (.int ki i)) σ':=by
 have hv:=h.cc x;unfold kL at hr;split at hr
 ·rename_i s hT hx;rw[hx] at hv;obtain⟨b,hy,iD⟩:=bS hr;obtain rfl:=aG iD;obtain⟨h0,hy2⟩:=si hy;obtain⟨hval,hl⟩:=xo hv;refine bC h hd (x:=.int .u8 (u8 b)) ?_ (mkInt (u8_in b));rw[hval];have hu:=(hc.T _ _ hT).str;have hg:(⟨List.toArray (show List UInt8 from s)⟩:ByteArray)[i.toNat]?=some b:=by
   have:=(List.getElem?_eq_some_iff.1 hy2);obtain⟨q1,q2⟩:=this;have hsz:i.toNat<(⟨List.toArray (show List UInt8 from s)⟩:ByteArray).size:=q1;rw[getElem?_pos (⟨List.toArray (show List UInt8 from s)⟩:ByteArray) i.toNat hsz];exact congrArg some q2
  simp only[Instr.index,asIntOf,Sem.run_bind,Sem.run_pure,Result.andThen_ok,run_underlying hu,h0,nk,hg];rfl
 ·rename_i m u n e l hT hx;rw[hx] at hv;obtain⟨hb,hr2⟩:=aB hr;simp only[dW] at hb;obtain rfl:=Ty.eq_of_beq hb.1;obtain rfl:=fu hb.2;obtain⟨y,hy,iD⟩:=bS hr2;obtain rfl:=aG iD;obtain⟨h0,hy2⟩:=si hy;obtain⟨eT,k1,k2,k3⟩:=(hc.T _ _ hT).arr;obtain⟨cs,h2,hval⟩:=dA.1 hv;have hi:i.toNat<m:=by have:=(List.getElem?_eq_some_iff.1 hy2).1;have:=h2.1;omega
  have mh:=h2.2.2 _ y hy2;have hm:(i.toNat+1)*u.size≤m*u.size:=sS _ hi;rw[A3] at hm;have hcl:=h2.2.1;have hp:=Co (P:=P) (w:=w) k2 (cs:=cs.toArray) (off:=i.toNat*u.size) (by simp;omega) sn;refine bC h hd (x:=bR u ((cs.drop (i.toNat*u.size)).take u.size)) ?_ ⟨_,mh,rfl⟩;have hi':i<(m:Int):=by omega
  rw[hval];show(Instr.index ty (.agg cs.toArray) (.int ki i)).run P w=_
  simp only[Instr.index,asIntOf,Sem.run_bind,Sem.run_pure,Result.andThen_ok,run_underlying k1,h0,hi',Lb,nk,k2.sizeOf w,hp]
 ·cases hr
theorem sb0(isSlice:Bool)(len cap:Nat):(Instr.sliceBounds isSlice len cap none none none).run P w=.ok (0,len,cap) w:=by simp[Instr.sliceBounds]
theorem sbh(isSlice:Bool)(len cap:Nat)(k:IntKind){y:Int}(h0:0≤y)(h1:y≤cap):(Instr.sliceBounds isSlice len cap none (some (.int k y)) none).run P w=.ok (0,y.toNat,cap) w:=by
 have c1:(0:Int)≤y∧y≤(cap:Int):=⟨h0,h1⟩;simp only[Instr.sliceBounds,Instr.sliceBound,asIntOf,Sem.run_bind,Sem.run_pure,Result.andThen_ok,c1,Lb,nk]
theorem sbl(isSlice:Bool)(len cap:Nat)(k:IntKind){y:Int}(h0:0≤y)(h1:y≤len):(Instr.sliceBounds isSlice len cap (some (.int k y)) none none).run P w=.ok (y.toNat,len,cap) w:=by
 have c1:(0:Int)≤y∧y≤(len:Int):=⟨h0,h1⟩;simp only[Instr.sliceBounds,Instr.sliceBound,asIntOf,Sem.run_bind,Sem.run_pure,Result.andThen_ok,c1,Lb,nk]
theorem ahb(isSlice:Bool)(len cap:Nat)(k k2:IntKind){y y2:Int}(h0:0≤y)(h1:y≤y2)(h2:y2≤cap):(Instr.sliceBounds isSlice len cap (some (.int k y)) (some (.int k2 y2)) none).run P w=.ok (y.toNat,y2.toNat,cap) w:=by
 have c1:(0:Int)≤y2∧y2≤(cap:Int):=⟨by omega,h2⟩;have c2:(0:Int)≤y∧y≤((y2.toNat:Nat):Int):=⟨h0,by omega⟩;simp only[Instr.sliceBounds,Instr.sliceBound,asIntOf,Sem.run_bind,Sem.run_pure,Result.andThen_ok,c1,Lb,nk];simp only[c2,Lb,nk,Sem.run_pure,Result.andThen_ok]
theorem ou{lo hi:Option Operand}{n:Int}{i j:Int}(h:cF B N γ σ a w)(hb:bounds σ n lo hi=some (i,j))(isSlice:Bool)(len cap:Nat)(hn:n=len)(hlc:len≤cap)(h0:0≤i)(h1:i≤j)(h2:j≤n) :
  (Instr.sliceBounds isSlice len cap (lo.map a.eval) (hi.map a.eval) none).run P w=.ok (i.toNat,j.toNat,cap) w:=by
 have ab7:∀(o:Operand) k (m:Int),cc σ o=.data (.int k) m→a.eval o=.int k m:=fun o k m e=>by
  have:=h.cc o;rw[e] at this;exact(sW this).1
 unfold bounds at hb;cases lo with
 | none =>
   cases hi with
   | none =>
     obtain⟨rfl,rfl⟩:=ec (aG hb);have:=sb0 (P:=P) (w:=w) isSlice len cap;rw[hn];simpa using this
   | some o =>
     simp only at hb;split at hb
     ·rename_i k y hy;obtain⟨rfl,e2⟩:=ec (aG hb);have e:=ab7 o k _ hy;rw[show y=j from e2] at e;simp only[K9,Option.map_none,e];exact sbh isSlice len cap k h1 (by omega)
     ·cases hb
 | some o =>
   cases hi with
   | none =>
     simp only at hb;split at hb
     ·rename_i k y hy;obtain⟨e2,rfl⟩:=ec (aG hb);have e:=ab7 o k _ hy;rw[show y=i from e2] at e;simp only[K9,Option.map_none,e];have:=sbl (P:=P) (w:=w) isSlice len cap k h0 (by omega);rw[hn];simpa using this
     ·cases hb
   | some o2 =>
     simp only at hb;split at hb
     ·rename_i k y k2 y2 hy hy2;obtain⟨e3,e4⟩:=ec (aG hb);have e:=ab7 o k _ hy;have e2:=ab7 o2 k2 _ hy2;rw[show y=i from e3] at e;rw[show y2=j from e4] at e2;simp only[K9,e,e2];exact ahb isSlice len cap k k2 h0 h1 (by omega)
     ·cases hb
theorem Sf(s:List UInt8){i j:Int}(h0:0≤i)(h1:i≤j):(⟨s.toArray⟩:ByteArray).extract i.toNat j.toNat=⟨(sub s i (minus j i)).toArray⟩:=by
 have:(minus j i).toNat=j.toNat-i.toNat:=by simp only[minus];omega
 apply ByteArray.ext;rw[ByteArray.data_extract];apply RV;simp[sub,this,List.extract_eq_take_drop]
theorem UE{α:Type}(s:List α)(i n:Int):(sub s i n).length≤s.length:=by
 simp only[sub,o6,w8];omega
theorem ZI{I:Nat→Nat→Prop}{e:Ty}{l:List e.den}{blk off cap i j:Nat}(h4:∀(k:Nat) (x:e.den),l[k]?=some x→∃es:List Value,es.length=e.size ∧
   (∀(q:Nat) v,es[q]?=some v→w.cell? ⟨blk,off+k*e.size+q,none⟩=some v∧I blk (off+k*e.size+q))∧bt w I e x es) (h1:i≤j) (h2:j≤l.length) (h3:l.length≤cap) (h5:cap≤maxLen) (base:Option Addr)
  (hb:base=some ⟨blk,off+i*e.size,none⟩∨(i=cap∧base=some ⟨blk,off,none⟩)) :
  bt w I (.slice e) ((l.drop i).take (j-i)) [.slice base (j-i) (cap-i)]:=by
 have hlen:((l.drop i).take (j-i)).length=j-i:=by simp;omega
 rcases hb with rfl|⟨rfl,rfl⟩
 ·refine .inr ⟨blk,off+i*e.size,cap-i,?_,?_,by omega,fun k x hk=>?_⟩
  ·show [Value.slice _ (j-i) _]=[Value.slice _ (List.length (α:=e.den) ((l.drop i).take (j-i))) _]
   rw[hlen]
  ·show List.length (α:=e.den) ((l.drop i).take (j-i))≤_
   rw[hlen];omega
  ·have hk':((l.drop i).take (j-i))[k]?=some x:=hk;rw[uo] at hk';split at hk'
   ·rw[ni] at hk';obtain⟨es,g1,g2,g3⟩:=h4 _ x hk';refine⟨es,g1,fun q v hq=>?_,g3⟩;have:=g2 q v hq;rw[gi,←AR] at this;exact this
   ·cases hk'
 ·have hji:j=i:=by omega
  subst hji;refine .inr ⟨blk,off,0,by simp,by simp,by omega,fun k x hk=>?_⟩;have hk':((l.drop j).take (j-j))[k]?=some x:=hk;simp at hk'
theorem sub_eq{α:Type}(l:List α){i j:Int}(h0:0≤i)(h1:i≤j):sub l i (minus j i)=(l.drop i.toNat).take (j.toNat-i.toNat):=by
 have:(minus j i).toNat=j.toNat-i.toNat:=by simp only[minus];omega
 rw[sub,this]
theorem sub_zero{α:Type}(l:List α):sub l 0 (minus 0 0)=[]:=by simp[sub,minus]
theorem Xt{I:Nat→Nat→Prop}{e:Ty}{l:List e.den}{blk off cap:Nat}{i j:Int}(h4:∀(k:Nat) (x:e.den),l[k]?=some x→∃es:List Value,es.length=e.size ∧
   (∀(q:Nat) v,es[q]?=some v→w.cell? ⟨blk,off+k*e.size+q,none⟩=some v∧I blk (off+k*e.size+q))∧bt w I e x es) (h0:0≤i) (h1:i≤j) (h2:j≤l.length) (h3:l.length≤cap) (h5:cap≤maxLen) (base:Option Addr)
  (hb:base=some ⟨blk,off+i.toNat*e.size,none⟩∨(i.toNat=cap∧base=some ⟨blk,off,none⟩)) :
  bt w I (.slice e) (sub l i (minus j i)) [.slice base (j.toNat-i.toNat) (cap-i.toNat)]:=by
 rw[sub_eq l h0 h1];exact ZI (w:=w) h4 (by omega) (by omega) h3 h5 base hb
theorem u9.sub{base:Option Addr}{cap:Nat}(h:u9 base cap)(i s:Nat):u9 (if cap=i then base else base.map (·.add s)) (cap-i):=by
 rcases h with rfl|⟨blk,off,rfl⟩
 ·exact .inl (by omega)
 ·refine .inr ?_;split
  ·exact⟨blk,off,rfl⟩
  ·exact⟨blk,off+s,by rw[K9,addr_add]⟩
theorem EV.sub{bx:bE}{b:Nat}{lo i:Int}{base:Option Addr}{cap:Nat}(h:EV γ bx b lo base cap)(hlo:0≤lo)(h0:0≤i)(s:Nat) :
  EV γ bx b (plus lo i) (if cap=i.toNat then base else base.map (·.add (i.toNat*s))) (cap-i.toNat):=by
 intro e hb;have e1:lo=0:=by simp only[plus] at e;omega
 have e2:i=0:=by simp only[plus] at e;omega
 subst e1;subst e2;rcases h rfl hb with ⟨a1,rfl,rfl⟩|⟨blk,a1,rfl⟩
 ·exact .inl ⟨a1,by simp,rfl⟩
 ·refine .inr ⟨blk,by simpa using a1,?_⟩;split
  ·rfl
  ·simp[Addr.add]
theorem JH(hc:eW P cx){ty:TypeId}{x:Operand}{lo hi:Option Operand}(h:cF B N γ σ a w)(hd:∀k,d=some k→k<N)(hr:(kJ cx d ty (cc σ x) lo hi σ).run=some σ') :
  mV P B N γ σ a w d (Instr.sliceAt ty (a.eval x) (lo.map a.eval) (hi.map a.eval) none) σ':=by
 have hv:=h.cc x;unfold kJ at hr;split at hr
 ·
  rename_i s hT hx;rw[hx] at hv;split at hr
  ·rename_i i j hb;obtain⟨hin,hr2⟩:=bY hr;obtain rfl:=aG hr2;obtain⟨h0,h1,h2⟩:=iE hin;obtain⟨hval,hl⟩:=xo hv;have hu:=(hc.T _ _ hT).str;have Xu:=ou (P:=P) h hb false (List.length (α:=UInt8) s) (List.length (α:=UInt8) s) rfl (mq _) h0 h1 h2;refine bC h hd (x:=.string ⟨(sub (α:=UInt8) s i (minus j i)).toArray⟩) ?_ (mkStr (jl (UE (α:=UInt8) s _ _) hl));rw[hval];have hsz:(⟨List.toArray (α:=UInt8) s⟩:ByteArray).size=List.length (α:=UInt8) s:=rfl;simp only[Instr.sliceAt,Instr.slice,Sem.run_bind,run_underlying hu,Result.andThen_ok,hsz,Option.isSome_none,Uo,G1];rw[Xu];simp only[Result.andThen_ok,Sem.run_pure];rw[Sf (show List UInt8 from s) h0 h1]
  ·cases hr
 ·
  rename_i u e l hT hx;rw[hx] at hv;obtain⟨Wu,jC⟩:=aB hr;obtain rfl:=Ty.eq_of_beq Wu;split at jC
  ·rename_i i j hb;obtain⟨hin,hr2⟩:=bY jC;obtain rfl:=aG hr2;obtain⟨h0,h1,h2⟩:=iE hin;obtain⟨eT,k1,k2,k3,k4⟩:=(hc.T _ _ hT).slice;obtain⟨cs,Bc,hval⟩:=dA.1 hv;have Xv:len (α:=u.den) l=(List.length (α:=u.den) l:Int):=rfl;rcases Bc with ⟨⟨ZJ,e1⟩,e2⟩|⟨blk,off,cap,e1,e2,e3,e4⟩
   ·have IB:a.eval x=.slice ZJ 0 0:=by rw[hval,e1];rfl
    have hl0:List.length (α:=u.den) l=0:=by rw[show l=([]:List u.den) from e2];rfl
    rw[Xv,hl0] at h2;have hi0:i=0:=by omega
    have hj0:j=0:=by omega
    subst hi0;subst hj0;have Xu:=ou (P:=P) h hb true 0 0 (by rw[Xv,hl0]) (mq _) h0 h1 (by rw[Xv,hl0];exact h2);refine bC h hd (x:=.slice ZJ 0 0) ?_ ⟨_,.inl ⟨⟨ZJ,rfl⟩,?_⟩,rfl⟩
    ·rw[IB];simp only[Instr.sliceAt,Instr.slice,Sem.run_bind,run_underlying k1,Result.andThen_ok,Xu,k2.sizeOf w,Sem.run_pure];rfl
    ·exact sub_zero (α:=u.den) l
   ·have IB:a.eval x=.slice (some ⟨blk,off,none⟩) (List.length (α:=u.den) l) cap:=by rw[hval,e1];rfl
    have Xu:=ou (P:=P) h hb true (List.length (α:=u.den) l) cap Xv e2 h0 h1 h2;have hj:j.toNat≤List.length (α:=u.den) l:=by rw[Xv] at h2;omega
    have hmain:=Xt (w:=w) (i:=i) (j:=j) e4 h0 h1 (by rw[Xv] at h2;exact h2) e2 e3;refine bC h hd (x:=.slice (if cap=i.toNat then some ⟨blk,off,none⟩ else some ⟨blk,off+i.toNat*u.size,none⟩) (j.toNat-i.toNat) (cap-i.toNat)) ?_
     ⟨_,hmain (if cap=i.toNat then some ⟨blk,off,none⟩ else some ⟨blk,off+i.toNat*u.size,none⟩) (by
      split
      ·rename_i hcap;exact .inr ⟨hcap.symm,rfl⟩
      ·exact .inl rfl),rfl⟩
    rw[IB];simp only[Instr.sliceAt,Instr.slice,Sem.run_bind,run_underlying k1,Result.andThen_ok,Xu,k2.sizeOf w,Sem.run_pure,K9,addr_add]
  ·cases jC
 ·
  rename_i u c aA lo' n hT hx;rw[hx] at hv;split at hr
  ·rename_i bx qs;obtain⟨Wu,jC⟩:=aB hr;simp only[dW] at Wu;have bh:=fu Wu.1;split at jC
   ·rename_i i j hb;obtain⟨hin,hr2⟩:=bY jC;obtain rfl:=aG hr2;obtain⟨h0,h1,h2⟩:=iE hin;obtain⟨eT,k1,k2,k3,k4⟩:=(hc.T _ _ hT).slice;obtain⟨e',k,g2,g3,g4,g5,base,cap,g6,g7,g8,gF,g9⟩:=aV qs bh hv.2;have hue:u=e':=by
     have:=Wu.2;rw[g2] at this;exact Ty.eq_of_beq this
    subst hue;obtain g6:a.eval x=_:=by simpa using g6
    have Xu:=ou (P:=P) h hb true n.toNat cap (by omega) g7 h0 h1 h2;refine bC h hd (x:=.slice (if cap=i.toNat then base else base.map (·.add (i.toNat*u.size))) (j.toNat-i.toNat) (cap-i.toNat)) ?_
     ⟨⟨_,rfl,rfl⟩,bx,qs,by omega,fun _=>⟨u,k,g2,by simp only[plus];omega,by simp only[minus];omega,by simp only[plus,minus];omega,(if cap=i.toNat then base else base.map (·.add (i.toNat*u.size))),cap-i.toNat,?_,?_,?_,⟨gF.1.sub _ _,gF.2.sub g3 h0 _⟩,?_⟩⟩
    ·rw[g6];simp only[Instr.sliceAt,Instr.slice,Sem.run_bind,run_underlying k1,Result.andThen_ok,Xu,k2.sizeOf w,Sem.run_pure]
    ·have:(minus j i).toNat=j.toNat-i.toNat:=by simp only[minus];omega
     rw[this]
    ·simp only[minus];omega
    ·omega
    ·rcases g9 with g9|⟨blk,c',g9,g10⟩
     ·exact .inl (by simp only[minus];omega)
     ·by_cases hcap:cap=i.toNat
      ·exact .inl (by simp only[minus];omega)
      ·refine .inr ⟨blk,c',g9,?_⟩;rw[bH hcap,g10];have:(plus lo' i).toNat=lo'.toNat+i.toNat:=by simp only[plus];omega
       simp only[K9,addr_add,this,gi]
   ·cases jC
  ·cases hr
 ·
  rename_i u c aA hT hx;rw[hx] at hv;split at hr
  ·rename_i bx qs;obtain⟨Wu,jC⟩:=aB hr;simp only[dW] at Wu;have bh:=fu Wu.1;split at jC
   ·rename_i e l mj;obtain⟨hue,hr2⟩:=aB jC;obtain rfl:=Ty.eq_of_beq hue;obtain⟨eT,k1,k2,k3,k4⟩:=(hc.T _ _ hT).slice;obtain⟨e',n',g1,g2,g3⟩:=aV qs bh hv.2;have hrow:bx.row=some (u,List.length (α:=u.den) l):=bE.dh Wu.2 mj;rw[hrow] at g2;obtain⟨rfl,rfl⟩:=ec (aG g2);have ig:=h.ok.boxes c bx qs;rw[cr,g1] at ig;obtain⟨e2,l2,j1,j2,j3⟩:=ig;have afh:∃base cap,a.eval x=.slice base (List.length (α:=u.den) l) cap∧List.length (α:=u.den) l≤cap∧cap≤maxLen∧(((cap=0∧List.length (α:=u.den) l=0)∧γ.loc c=none∧base=none)∨∃blk,γ.loc c=some (blk,cap)∧base=some ⟨blk,0,none⟩):=by
     rw[mj] at j1;cases j1;rcases g3 with ⟨g3,g4⟩|⟨blk,cap,g3,g4⟩
     ·obtain g4:a.eval x=_:=by simpa using g4
      rcases j3 with ⟨_,j4⟩|⟨_,_,_,_,_,j3,_⟩
      ·have hl0:List.length (α:=u.den) l=0:=by rw[j4];rfl
       exact⟨none,0,by rw[g4,hl0],by omega,w9 _,.inl ⟨⟨rfl,hl0⟩,g3,rfl⟩⟩
      ·rw[g3] at j3;cases j3
     ·obtain g4:a.eval x=_:=by simpa using g4
      rcases j3 with ⟨j3,_⟩|⟨de,cap',cur,tid,fr,q1,q2,q3,gL,q4,q5,q6,q7⟩
      ·rw[g3] at j3;cases j3
      ·rw[g3] at q1;obtain⟨rfl,rfl⟩:=ec (aG q1);exact⟨_,cap,g4,q4,q5,.inr ⟨blk,g3,rfl⟩⟩
    obtain⟨base,cap,m1,m2,m3,m4⟩:=afh;have hF:u9 base cap:=by
     rcases m4 with ⟨⟨q2,_⟩,_⟩|⟨blk,q1,q2⟩
     ·exact .inl q2
     ·exact .inr ⟨blk,0,q2⟩
    have hZ:EV γ bx c 0 base cap:=fun _ _=>by
     rcases m4 with ⟨⟨q2,_⟩,q3,q4⟩|⟨blk,q1,q2⟩
     ·exact .inl ⟨q3,q4,q2⟩
     ·exact .inr ⟨blk,q1,q2⟩
    have Wv:∀{i j:Int},bounds σ (len (α:=u.den) l) lo hi=some (i,j)→0≤i→i≤j→j≤len (α:=u.den) l →
      (Instr.sliceAt ty (a.eval x) (lo.map a.eval) (hi.map a.eval) none).run P w=.ok (.slice (if cap=i.toNat then base else base.map (·.add (i.toNat*u.size))) (j.toNat-i.toNat) (cap-i.toNat)) w:=by
     intro i j hb h0 h1 h2;have Xu:=ou (P:=P) h hb true (List.length (α:=u.den) l) cap rfl m2 h0 h1 h2;rw[m1];simp only[Instr.sliceAt,Instr.slice,Sem.run_bind,run_underlying k1,Result.andThen_ok,Xu,k2.sizeOf w,Sem.run_pure]
    split at hr2
    ·obtain rfl:=aG hr2;have:=Wv (i:=0) (j:=len (α:=u.den) l) rfl (by omega) (by simp only[len];omega) (by omega);have hjl:(len (α:=u.den) l).toNat=List.length (α:=u.den) l:=by simp[len]
     rw[hjl] at this;refine bC h hd (x:=a.eval x) ?_ hv;rw[this,m1]
     congr 1
     have:(base.map (·.add ((0:Int).toNat*u.size)))=base:=by cases base<;>simp[Addr.add]
     rw[this];simp
    ·split at hr2
     ·rename_i i j hb;obtain⟨hin,iD⟩:=bY hr2;obtain rfl:=aG iD;obtain⟨h0,h1,h2⟩:=iE hin;have Xv:len (α:=u.den) l=(List.length (α:=u.den) l:Int):=rfl;rw[Xv] at h2;refine bC h hd (Wv hb h0 h1 h2)
       ⟨⟨_,rfl,rfl⟩,bx,qs,by omega,fun _=>⟨u,_,hrow,h0,by simp only[minus];omega,by simp only[minus];omega,(if cap=i.toNat then base else base.map (·.add (i.toNat*u.size))),cap-i.toNat,?_,?_,?_,⟨hF.sub _ _,by have:=hZ.sub (RT 0) h0 u.size;rwa [show plus 0 i=i by simp[plus]] at this⟩,?_⟩⟩
      ·have:(minus j i).toNat=j.toNat-i.toNat:=by simp only[minus];omega
       rw[this]
      ·simp only[minus];omega
      ·omega
      ·by_cases hcap:cap=i.toNat
       ·exact .inl (by simp only[minus];omega)
       ·rcases m4 with ⟨q1,q3⟩|⟨blk,q1,q2⟩
        ·exact .inl (by simp only[minus];omega)
        ·refine .inr ⟨blk,cap,q1,?_⟩;rw[bH hcap,q2];simp only[K9,addr_add,uW]
     ·cases hr2
   ·cases jC
  ·cases hr
 ·
  rename_i m u c aA s q hT hx;rw[hx] at hv;obtain⟨Xw,jC⟩:=aB hr;simp only[dW] at Xw;obtain⟨bx,qs,bh⟩:=jB Xw.1;have ahd:=JB Xw.2;split at jC
  ·rename_i i j hb;obtain⟨hin,iD⟩:=bY jC;obtain rfl:=aG iD;obtain⟨h0,h1,h2⟩:=iE hin;obtain⟨eT,k1,k2,k3⟩:=(hc.T _ _ hT).arr;obtain⟨blk,cap,hl,hval⟩:=aV qs bh hv.2;obtain hval:a.eval x=.pointer (some ⟨blk,ck (s::q),none⟩):=by simpa using hval
   have Xu:=ou (P:=P) h hb false m m rfl (mq _) h0 h1 h2;refine bC h hd (x:=.slice (some (if m=i.toNat then⟨blk,ck (s::q),none⟩ else(⟨blk,ck (s::q),none⟩:Addr).add (i.toNat*u.size))) (j.toNat-i.toNat) (m-i.toNat)) ?_
    ⟨⟨_,rfl,rfl⟩,bx,qs,by omega,fun _=>⟨by simp,blk,cap,hl,h0,by simp only[minus];omega,by simp only[minus];omega,some (if m=i.toNat then⟨blk,ck (s::q),none⟩ else(⟨blk,ck (s::q),none⟩:Addr).add (i.toNat*u.size)),m-i.toNat,?_,?_,?_⟩⟩
   ·rw[hval];simp only[Instr.sliceAt,Sem.run_bind,run_underlying k1,Result.andThen_ok,Instr.sureAddr,Sem.run_pure,Xu,k2.sizeOf w]
   ·have:(minus j i).toNat=j.toNat-i.toNat:=by simp only[minus];omega
    rw[this]
   ·simp only[minus];omega
   ·by_cases hcap:m=i.toNat
    ·exact .inl (by simp only[minus];omega)
    ·refine .inr ?_;rw[bH hcap];simp only[addr_add]
  ·cases jC
 ·
  rename_i m u c aA hT hx;rw[hx] at hv;split at hr
  ·rename_i bx qs;obtain⟨Wu,jC⟩:=aB hr;simp only[dW,nj] at Wu;have bh:=fu Wu.1;split at jC
   ·rename_i n e l mj;obtain⟨hq,hr2⟩:=aB jC;simp only[dW] at hq;obtain rfl:=fu hq.1.1;obtain rfl:=Ty.eq_of_beq hq.1.2;have ahd:=JB hq.2;split at hr2
    ·rename_i i j hb;obtain⟨hin,iD⟩:=bY hr2;obtain rfl:=aG iD;obtain⟨h0,h1,h2⟩:=iE hin;obtain⟨eT,k1,k2,k3⟩:=(hc.T _ _ hT).arr;obtain⟨blk,cap,hl,hval⟩:=aV qs bh hv.2;obtain hval:a.eval x=.pointer (some ⟨blk,0,none⟩):=by simpa [ck] using hval
     have Xu:=ou (P:=P) h hb false m m rfl (mq _) h0 h1 h2;have hF:u9 (some (if m=i.toNat then⟨blk,0,none⟩ else(⟨blk,0,none⟩:Addr).add (i.toNat*u.size))) (m-i.toNat):=by
      refine .inr ?_;split
      ·exact⟨blk,0,rfl⟩
      ·exact⟨blk,0+i.toNat*u.size,by rw[addr_add]⟩
     refine bC h hd (x:=.slice (some (if m=i.toNat then⟨blk,0,none⟩ else(⟨blk,0,none⟩:Addr).add (i.toNat*u.size))) (j.toNat-i.toNat) (m-i.toNat)) ?_
      ⟨⟨_,rfl,rfl⟩,bx,qs,by omega,fun _=>⟨u,m,bE.pF Wu.2 mj,h0,by simp only[minus];omega,by simp only[minus];omega,some (if m=i.toNat then⟨blk,0,none⟩ else(⟨blk,0,none⟩:Addr).add (i.toNat*u.size)),m-i.toNat,?_,?_,?_,⟨hF,fun _ hb=>by rw[Wu.2] at hb;cases hb⟩,?_⟩⟩
     ·rw[hval];simp only[Instr.sliceAt,Sem.run_bind,run_underlying k1,Result.andThen_ok,Instr.sureAddr,Sem.run_pure,Xu,k2.sizeOf w]
     ·have:(minus j i).toNat=j.toNat-i.toNat:=by simp only[minus];omega
      rw[this]
     ·simp only[minus];omega
     ·simp only[maxLen];omega
     ·by_cases hcap:m=i.toNat
      ·exact .inl (by simp only[minus];omega)
      ·refine .inr ⟨blk,cap,hl,?_⟩;rw[bH hcap];simp only[addr_add,uW]
    ·cases hr2
   ·cases jC
  ·cases hr
 ·cases hr
end
end Go.Ge
namespace Go.Ge
open RowKit
section
variable {P:Program} {B:qq} {N:Nat} {γ:Gh} {σ σ':St} {a:Act} {w:World} {d:Option Nat} {cx:Ctx}
theorem bt.flat{w w':World}{I I':Nat→Nat→Prop}:∀{t:Ty} {x:t.den} {cs:List Value},t.flat=true→bt w I t x cs→bt w' I' t x cs:=by
 intro t;induction t with
 | int k=>intro x cs _ h;exact h
 | bool=>intro x cs _ h;exact h
 | str=>intro x cs _ h;exact h
 | slice e ih=>intro x cs hf;cases hf
 | arr n e ih=>intro x cs hf h;exact⟨h.1,h.2.1,fun i y hy=>ih hf (h.2.2 i y hy)⟩
 | pair a b jm lG =>
   intro x cs hf h;simp only[Ty.flat,dW] at hf;obtain⟨c1,c2,h0,h1,h2⟩:=h;exact⟨c1,c2,h0,jm hf.1 h1,lG hf.2 h2⟩
 | unit=>intro x cs _ h;exact h
 | alt u a r jm ihr =>
   intro x cs hf h;simp only[Ty.flat,dW] at hf;rcases x with y|z
   ·obtain⟨h1,c,h2,h3⟩:=h;exact⟨h1,c,h2,jm hf.1 h3⟩
   ·exact ihr hf.2 (show bt w I r z cs from h)
 | AU=>intro x cs _ h;exact h
def Be(w:World)(I:Nat→Nat→Prop)(e:Ty)(l:List e.den)(v:Value):Prop :=
 (l=[]∧∃base cap,v=.slice base 0 cap∧cap≤maxLen∧u9 base cap) ∨
 ∃blk off cap,v=.slice (some ⟨blk,off,none⟩) l.length cap∧l.length≤cap∧cap≤maxLen ∧
  ∀(i:Nat) (x:e.den),l[i]?=some x→∃es:List Value,es.length=e.size ∧
   (∀(j:Nat) c,es[j]?=some c→w.cell? ⟨blk,off+i*e.size+j,none⟩=some c)∧bt w I e x es
theorem zu{I:Nat→Nat→Prop}{e:Ty}{l:List e.den}{blk:Nat}{cur:Array Value}{tid:TypeId}{fr:Nat×Nat}(hg:w.heap[blk]?=some (.cells cur tid fr)){n:Nat}(hn:n*e.size≤cur.size)
  (h:∀(i:Nat) (x:e.den),l[i]?=some x→bt w I e x ((cur.toList.drop (i*e.size)).take e.size)) (hl:l.length≤n) (lo:Nat) :
  ∀(i:Nat) (x:e.den),(l.drop lo)[i]?=some x→∃es:List Value,es.length=e.size ∧
   (∀(j:Nat) c,es[j]?=some c→w.cell? ⟨blk,lo*e.size+i*e.size+j,none⟩=some c)∧bt w I e x es:=by
 intro i x hx;rw[ni] at hx;have hr:=h _ x hx;have hlt:=(List.getElem?_eq_some_iff.1 hx).1;refine⟨_,hr.length,fun j c hj=>?_,hr⟩;rw[cell_of_heap hg];rw[uo] at hj;split at hj
 ·rw[ni] at hj;rw[←gi];simpa using hj
 ·cases hj
theorem cr.row{b:Nat}{bx:bE}{mem:Nat→Option bE}(h:cr γ mem w b bx){blk cap:Nat}(hl:γ.loc b=some (blk,cap)) :
  (∀(e:Ty) (l:List e.den),bx.buf=true→bx.val=.data (.slice e) l→∃cur tid fr,w.heap[blk]?=some (.cells cur tid fr)∧kU cur fr∧l.length≤cap∧cap≤maxLen∧cur.size=cap*e.size∧0<e.size ∧
   ∀(i:Nat) (x:e.den),l[i]?=some x→bt w γ.I e x ((cur.toList.drop (i*e.size)).take e.size)) ∧
  (∀(n:Nat) (e:Ty) (l:List e.den),bx.buf=false→bx.val=.data (.arr n e) l→∃cur tid fr,w.heap[blk]?=some (.cells cur tid fr)∧kU cur fr∧l.length=n∧cur.size=n*e.size ∧
   ∀(i:Nat) (x:e.den),l[i]?=some x→bt w γ.I e x ((cur.toList.drop (i*e.size)).take e.size)):=by
 refine⟨fun e l hb hv=>?_,fun n e l hb hv=>?_⟩
 ·rw[cr,hb] at h;obtain⟨e',l',h1,h2,h3⟩:=h;rw[hv] at h1;cases h1;rcases h3 with ⟨h3,_⟩|⟨de,cap',cur,tid,fr,q1,q2,q3,gL,q4,q5,q6,q7⟩
  ·rw[hl] at h3;cases h3
  ·rw[hl] at q1;obtain⟨rfl,rfl⟩:=ec (aG q1);exact⟨cur,tid,fr,q2,q3.th,q4,q5,q6,h2,q7⟩
 ·rw[cr,hb] at h;obtain⟨de,cap',cur,tid,fr,q1,q2,q3,gL,q4⟩:=h;rw[hl] at q1;obtain⟨rfl,rfl⟩:=ec (aG q1);rw[hv] at q4;obtain⟨r1,r2,r3⟩:=q4;exact⟨cur,tid,fr,q2,q3,r1,by simpa using r2,r3⟩
theorem E2{u e:Ty}{l:List u.den}{m:List e.den}(h:toL u e l=some m):∃q:u=e,m=q▸l:=ko h
theorem lM{e:Ty}{v:aO}{l:List e.den}(hl:fS e σ v=some l) :
  v=.data (.slice e) l∨(v=.nr∧l=[])∨(∃b aA bx,v=.whole b aA∧σ.mem b=some bx∧bx.aA=aA∧bx.buf=true∧bx.val=.data (.slice e) l) ∨
  ∃b aA lo n bx,v=.part b aA lo n∧σ.mem b=some bx∧bx.aA=aA∧((bx.buf=true∧∃l0:List e.den,bx.val=.data (.slice e) l0∧l=sub l0 lo n)∨(bx.buf=false∧∃(k:Nat) (l0:List e.den),bx.val=.data (.arr k e) l0∧l=sub l0 lo n)):=by
 unfold fS at hl;split at hl
 ·obtain⟨q,rfl⟩:=E2 hl;subst q;exact .inl rfl
 ·exact .inr (.inl ⟨rfl,(aG hl).symm⟩)
 ·rename_i b aA;split at hl
  ·rename_i bx hb;cases hc:(Nat.beq bx.aA aA&&bx.buf) with
   | false=>rw[hc,iA] at hl;exact absurd hl (by simp)
   | true =>
     rw[hc,fy] at hl;simp only[dW] at hc;split at hl
     ·rename_i u l0 mj;obtain⟨q,rfl⟩:=E2 hl;subst q;exact .inr (.inr (.inl ⟨b,aA,bx,rfl,hb,fu hc.1,hc.2,mj⟩))
     ·exact absurd hl (by simp)
  ·exact absurd hl (by simp)
 ·rename_i b aA lo n;split at hl
  ·rename_i bx hb;cases hc:Nat.beq bx.aA aA with
   | false=>rw[hc,iA] at hl;exact absurd hl (by simp)
   | true =>
     rw[hc,fy] at hl;split at hl
     ·rename_i u l0 bu mj;obtain⟨q,rfl⟩:=E2 hl;subst q;exact .inr (.inr (.inr ⟨b,aA,lo,n,bx,rfl,hb,fu hc,.inl ⟨bu,l0,mj,rfl⟩⟩))
     ·rename_i k0 u l0 bu mj;obtain⟨q,rfl⟩:=E2 hl;subst q;exact .inr (.inr (.inr ⟨b,aA,lo,n,bx,rfl,hb,fu hc,.inr ⟨bu,k0,l0,mj,rfl⟩⟩))
     ·exact absurd hl (by simp)
  ·exact absurd hl (by simp)
 ·exact absurd hl (by simp)
theorem KV{α:Type}{l:List α}{lo n:Int}(h0:0≤lo)(h1:0≤n)(h2:lo+n≤l.length):(sub l lo n).length=n.toNat:=by
 simp only[sub,o6,w8];omega
theorem qQ(hm:bp B γ σ.mem w){e:Ty}{v:aO}{val:Value}{l:List e.den}(hv:b6 γ σ.mem w v .val [val])(hl:fS e σ v=some l):Be w γ.I e l val:=by
 rcases lM hl with rfl|⟨rfl,rfl⟩|⟨b,aA,bx,rfl,hb,bh,bu,mj⟩|⟨b,aA,lo,n,bx,rfl,hb,bh,KP⟩
 ·obtain⟨cs,h1,hval⟩:=dA.1 hv;rcases h1 with ⟨⟨base,h1⟩,h2⟩|⟨blk,off,cap,h1,h2,h3,h4⟩
  ·exact .inl ⟨h2,base,0,by rw[hval,h1];rfl,w9 _,.inl rfl⟩
  ·refine .inr ⟨blk,off,cap,by rw[hval,h1];rfl,h2,h3,fun i x hx=>?_⟩;obtain⟨es,g1,g2,g3⟩:=h4 i x hx;exact⟨es,g1,fun j c hj=>(g2 j c hj).1,g3⟩
 ·obtain rfl:val=_:=by simpa [b6] using hv
  exact .inl ⟨rfl,none,0,rfl,w9 _,.inl rfl⟩
 ·obtain⟨e',n',g1,g2,g3⟩:=aV hb bh hv.2;rw[bE.dh g1 mj] at g2;obtain⟨rfl,rfl⟩:=ec (aG g2);rcases g3 with ⟨g3,g4⟩|⟨blk,cap,g3,g4⟩
  ·obtain rfl:val=_:=by simpa using g4
   have ig:=hm.boxes b bx hb;rw[cr,g1] at ig;obtain⟨e2,l2,j1,j2,j3⟩:=ig;rw[mj] at j1;cases j1;rcases j3 with ⟨_,j4⟩|⟨_,_,_,_,_,j3,_⟩
   ·exact .inl ⟨j4,none,0,rfl,w9 _,.inl rfl⟩
   ·rw[g3] at j3;exact absurd j3 (by simp)
  ·obtain rfl:val=_:=by simpa using g4
   obtain⟨cur,tid,fr,q1,q2,q3,q4,q5,q6,q7⟩:=((hm.boxes b bx hb).row g3).1 _ l g1 mj;refine .inr ⟨blk,0,cap,rfl,q3,q4,fun i x hx=>?_⟩;have:=zu q1 (n:=cap) (by omega) q7 q3 0 i x hx;rw[OY] at this;exact this
 ·obtain⟨e',k,g2,g3,g4,g5,base,cap,g6,g7,g8,gF,g9⟩:=aV hb bh hv.2;obtain rfl:val=_:=by simpa using g6
  rcases KP with ⟨bu,l0,mj,rfl⟩|⟨bu,k0,l0,mj,rfl⟩
  ·rw[bE.dh bu mj] at g2;obtain⟨rfl,rfl⟩:=ec (aG g2);have hlen:=KV g3 g4 g5;rcases g9 with g9|⟨blk,c,g9,g10⟩
   ·subst g9;exact .inl ⟨by simp[sub],base,cap,rfl,g8,gF.1⟩
   ·obtain⟨cur,tid,fr,q1,q2,q3,q4,q5,q6,q7⟩:=((hm.boxes b bx hb).row g9).1 _ l0 bu mj;refine .inr ⟨blk,lo.toNat*e.size,cap,by rw[g10,hlen],by rw[hlen];exact g7,g8,fun i x hx=>?_⟩;have hx':((List.drop lo.toNat l0).take n.toNat)[i]?=some x:=hx;rw[uo] at hx';split at hx'
    ·exact zu q1 (n:=c) (by omega) q7 q3 lo.toNat i x hx'
    ·exact absurd hx' (by simp)
  ·rw[bE.pF bu mj] at g2;obtain⟨rfl,rfl⟩:=ec (aG g2);rcases g9 with g9|⟨blk,c,g9,g10⟩
   ·subst g9;exact .inl ⟨by simp[sub],base,cap,rfl,g8,gF.1⟩
   ·obtain⟨cur,tid,fr,q1,q2,q3,q5,q7⟩:=((hm.boxes b bx hb).row g9).2 _ _ l0 bu mj;have hlen:=KV (l:=l0) g3 g4 (by rw[q3];exact g5);refine .inr ⟨blk,lo.toNat*e.size,cap,by rw[g10,hlen],by rw[hlen];exact g7,g8,fun i x hx=>?_⟩;have hx':((List.drop lo.toNat l0).take n.toNat)[i]?=some x:=hx;rw[uo] at hx';split at hx'
    ·exact zu q1 (n:=k0) (by omega) q7 (by omega) lo.toNat i x hx'
    ·exact absurd hx' (by simp)
theorem D6{I:Nat→Nat→Prop}{e:Ty}{blk:Nat}:∀{l:List e.den} {off:Nat},(∀(i:Nat) (x:e.den),l[i]?=some x→∃es:List Value,es.length=e.size ∧
   (∀(j:Nat) c,es[j]?=some c→w.cell? ⟨blk,off+i*e.size+j,none⟩=some c)∧bt w I e x es) →
  ∃news:List Value,news.length=l.length*e.size∧(∀(j:Nat) c,news[j]?=some c→w.cell? ⟨blk,off+j,none⟩=some c)∧(∀c∈news,c.oneCell'=true) ∧
   ∀(i:Nat) (x:e.den),l[i]?=some x→bt w I e x ((news.drop (i*e.size)).take e.size):=by
 intro l;induction l with
 | nil=>intro off h;exact⟨[],by simp,by simp,by simp,by simp⟩
 | cons x0 r ih =>
   intro off h;obtain⟨es,g1,g2,g3⟩:=h 0 x0 rfl;obtain⟨news,k1,k2,k3,k4⟩:=ih (off:=off+e.size) fun i x hx=>by
    obtain⟨es',a1,a2,a3⟩:=h (i+1) x (by simpa using hx);refine⟨es',a1,fun j c hj=>?_,a3⟩;have:=a2 j c hj;rw[A3] at this;rw[←this];congr 2;omega
   refine⟨es++news,by rw[uV,g1,k1,o7,A3];omega,fun j c hj=>?_,fun c hc=>?_,fun i x hx=>?_⟩
   ·rw[RH] at hj;split at hj
    ·have:=g2 j c hj;simpa using this
    ·rename_i hlt;have:=k2 _ c hj;rw[←this];congr 2;omega
   ·rcases List.mem_append.1 hc with hc|hc
    ·exact g3.one c hc
    ·exact k3 c hc
   ·cases i with
    | zero =>
      obtain rfl:x0=x:=by simpa using hx
      rw[OY,RQ,←g1,OV];exact g3
    | succ i =>
      have hx':r[i]?=some x:=by simpa using hx
      rw[A3,Wp,←ye,←g1,CL,g1];exact k4 i x hx'
theorem E3(h:cF B N γ σ a w){b:Nat}{bx:bE}{e:Ty}{n:Nat}(hb:σ.mem b=some bx)(hrow:bx.row=some (e,n))(hf:freeze σ b=some σ') :
  ∃γ',cF B N γ' σ' a w∧Ext B γ σ.mem w γ' σ'.mem w∧γ'.loc=γ.loc∧∀blk k off,γ.loc b=some (blk,k)→off<n*e.size→γ'.I blk off:=by
 obtain⟨m1,m2⟩:=h.ok.freeze hb hrow;have e1:σ'={ slots:=σ.slots,mem:=cl σ.mem b { bx with ro:=true } }:=by
  unfold freeze at hf;rw[hb] at hf;cases hro:bx.ro with
  | true =>
    simp only[hro,fy,uq] at hf;subst hf;have:cl σ.mem b { bx with ro:=true }=σ.mem:=by
     funext c;by_cases e:c=b
     ·subst e;rw[bq,hb];congr 1;cases bx;simp only at hro;subst hro;rfl
     ·rw[aM _ e]
    rw[this]
  | false =>
    simp only[hro,iA] at hf;cases hlk:bx.lk with
    | true=>simp[hlk] at hf
    | false=>simp only[hlk,iA,uq] at hf;subst hf;rfl
 subst e1;exact⟨_,h.go m2 m1,m2,rfl,fun blk k off hl ho=>.inr ⟨⟨k,hl⟩,ho⟩⟩
theorem Be.data{γ':Gh}{e:Ty}{l:List e.den}{val:Value}(h:Be w γ.I e l val)(hI:∀b o,γ.I b o→γ'.I b o)
  (hc:∀blk off cap,val=.slice (some ⟨blk,off,none⟩) l.length cap→∀j,j<l.length*e.size→γ'.I blk (off+j)):bt w γ'.I (.slice e) l [val]:=by
 rcases h with ⟨rfl,base,cap,r1,r2,r3⟩|⟨blk,off,cap,r1,r2,r3,r4⟩
 ·rcases r3 with rfl|⟨blk,off,rfl⟩
  ·exact .inl ⟨⟨base,by rw[r1]⟩,rfl⟩
  ·exact .inr ⟨blk,off,cap,by rw[r1];rfl,w9 _,r2,fun i x hx=>by cases hx⟩
 ·refine .inr ⟨blk,off,cap,by rw[r1],r2,r3,fun i x hx=>?_⟩;obtain⟨es,g1,g2,g3⟩:=r4 i x hx;have hi:i<l.length:=(List.getElem?_eq_some_iff.1 hx).1;refine⟨es,g1,fun j c hj=>⟨g2 j c hj,?_⟩,bt.mono hI (fun _ _ _=>rfl) g3⟩;have hj':j<e.size:=by have:=(List.getElem?_eq_some_iff.1 hj).1;omega
  have:(i+1)*e.size≤l.length*e.size:=sS _ hi;rw[A3] at this;rw[AR];exact hc blk off cap r1 _ (by omega)
theorem E4(h:cF B N γ σ a w){e:Ty}{v:aO}{val:Value}{l:List e.den}(hv:b6 γ σ.mem w v .val [val])(hl:fS e σ v=some l)(hf:gj σ v=some σ') :
  ∃γ',cF B N γ' σ' a w∧Ext B γ σ.mem w γ' σ'.mem w∧bt w γ'.I (.slice e) l [val]:=by
 have hrow:=qQ h.ok hv hl;rcases lM hl with rfl|⟨rfl,rfl⟩|⟨b,aA,bx,rfl,hb,bh,bu,mj⟩|⟨b,aA,lo,n,bx,rfl,hb,bh,KP⟩
 ·obtain rfl:=aG hf;obtain⟨cs,h1,hval⟩:=dA.1 hv;have:cs=[val]:=by
   obtain⟨c,rfl⟩:=List.length_eq_one_iff.1 h1.length;rw[hval];rfl
  exact⟨γ,h,Ext.refl _ _ _ _,by rw[←this];exact h1⟩
 ·obtain rfl:=aG hf;obtain rfl:val=_:=by simpa [b6] using hv
  exact⟨γ,h,Ext.refl _ _ _ _,.inl ⟨⟨none,rfl⟩,rfl⟩⟩
 ·obtain⟨γ',s1,s2,s3,s4⟩:=E3 h hb (bE.dh bu mj) hf;refine⟨γ',s1,s2,hrow.data s2.I fun blk off cap hval j hj=>?_⟩;obtain⟨e',n',g1,g2,g3⟩:=aV hb bh hv.2;rcases g3 with ⟨g3,g4⟩|⟨de,cap',g3,g4⟩
  ·obtain rfl:val=_:=by simpa using g4
   injection hval with q1 q2 q3
   rw[←q2,OY] at hj;omega
  ·obtain rfl:val=_:=by simpa using g4
   injection hval with q1 q2 q3
   injection q1 with q1
   injection q1 with q1 q4
   subst q1;subst q4;rw[uW];exact s4 de cap' j g3 hj
 ·obtain⟨e',k,g2,g3,g4,g5,base,cap,g6,g7,g8,gF,g9⟩:=aV hb bh hv.2;obtain rfl:val=_:=by simpa using g6
  have hlk:e=e'∧l.length=n.toNat:=by
   rcases KP with ⟨bu,l0,mj,rfl⟩|⟨bu,k0,l0,mj,rfl⟩
   ·rw[bE.dh bu mj] at g2;obtain⟨rfl,rfl⟩:=ec (aG g2);exact⟨rfl,KV g3 g4 g5⟩
   ·rw[bE.pF bu mj] at g2;obtain⟨rfl,rfl⟩:=ec (aG g2);rcases g9 with g9|⟨blk,c,g9,g10⟩
    ·subst g9;exact⟨rfl,by simp[sub]⟩
    ·obtain⟨cur,tid,fr,q1,q2,q3,q5,q7⟩:=((h.ok.boxes b bx hb).row g9).2 _ _ l0 bu mj;exact⟨rfl,KV g3 g4 (by rw[q3];exact g5)⟩
  obtain⟨rfl,hlen⟩:=hlk;obtain⟨γ',s1,s2,s3,s4⟩:=E3 h hb g2 hf;refine⟨γ',s1,s2,hrow.data s2.I fun blk off cap' hval j hj=>?_⟩;rcases g9 with g9|⟨de,c,g9,g10⟩
  ·rw[hlen,g9] at hj;simp at hj
  ·injection hval with q1 q2 q3
   rw[g10] at q1;injection q1 with q1
   injection q1 with q1 q4
   subst q1;subst q4;refine s4 de c _ g9 ?_;have:(lo.toNat+n.toNat)*e.size≤k*e.size:=sS _ (by omega);rw[gi] at this;rw[hlen] at hj;omega
theorem CZ{e:Ty}{v:aO}{l:List e.den}{b:Nat}(h:fS e σ v=some l)(hf:freeze σ b=some σ'):fS e σ' v=some l:=by
 have hm:∀c bx,σ.mem c=some bx→∃r,σ'.mem c=some { bx with ro:=r }:=by
  intro c bx hc;unfold freeze at hf;split at hf
  ·rename_i cQ hb0;cases hro:cQ.ro with
   | true=>simp only[hro,fy,uq] at hf;subst hf;exact⟨bx.ro,hc⟩
   | false =>
     cases hlk:cQ.lk with
     | true=>simp[hro,hlk] at hf
     | false =>
       simp only[hro,hlk,iA,uq] at hf;subst hf;by_cases e:c=b
       ·subst e;rw[hb0] at hc;obtain rfl:=aG hc;exact⟨true,by simp[St.bT,hlk]⟩
       ·exact⟨bx.ro,by simp[St.bT,gK e,hc]⟩
  ·cases hf
 rcases lM h with rfl|⟨rfl,rfl⟩|⟨c,aA,bx,rfl,hb,bh,bu,mj⟩|⟨c,aA,lo,n,bx,rfl,hb,bh,KP⟩
 ·exact h
 ·rfl
 ·obtain⟨r,hr⟩:=hm c bx hb;simp only[fS,hr,bh,bu,mj,RS,Bool.and_self,fy];simp[toL,Ty.beq_refl]
 ·obtain⟨r,hr⟩:=hm c bx hb;rcases KP with ⟨bu,l0,mj,rfl⟩|⟨bu,k0,l0,mj,rfl⟩
  ·simp only[fS,hr,bh,bu,mj,RS,fy];simp[toL,Ty.beq_refl]
  ·simp only[fS,hr,bh,bu,mj,RS,fy];simp[toL,Ty.beq_refl]
theorem E5{s r:Ty}{p q:aO}{x:(Ty.pair s r).den}(h:qo σ (.pair s r) (.mix p q)=some x):∃(y:s.den) (z:r.den),qo σ s p=some y∧qo σ r q=some z∧x=(y,z):=by
 replace h:(match qo σ s p,qo σ r q with
  | some x,some y=>some ((x,y):(Ty.pair s r).den)
  | _,_=>none)=some x:=h
 split at h
 ·rename_i y z h1 h2;exact⟨y,z,h1,h2,(aG h).symm⟩
 ·exact absurd h (by simp)
theorem O2{s r:Ty}{p q:aO}{y:s.den}{z:r.den}(h1:qo σ s p=some y)(h2:qo σ r q=some z):qo σ (.pair s r) (.mix p q)=some ((y,z):(Ty.pair s r).den):=by
 show(match qo σ s p,qo σ r q with
  | some x,some y=>some ((x,y):(Ty.pair s r).den)
  | _,_=>none)=some (y,z)
 rw[h1,h2]
theorem we{p q:aO}(h:gj σ (.mix p q)=some σ'):∃σ1,gj σ p=some σ1∧gj σ1 q=some σ':=by
 unfold gj at h;split at h
 ·rename_i σ1 h1;exact⟨σ1,h1,h⟩
 ·exact absurd h (by simp)
theorem oI{t:Ty}:∀{x:t.den},qo σ t .sg=some x→(∀w I,bt w I t x [.nilIface])∧(∀τ:St,qo τ t .sg=some x)∧bR t [.nilIface]=.nilIface∧t.isAgg=false:=by
 induction t with
 | alt u a r jm ihr =>
   intro x h;have h:(match qo σ r .sg with|some x=>some (Sum.inr x)|none=>none:Option (a.den⊕r.den))=some x:=h;cases hr:qo σ r .sg with
   | none=>rw[hr] at h;cases h
   | some y =>
     rw[hr] at h;obtain rfl:=aG h;obtain⟨h1,h2,h3,h4⟩:=ihr hr;refine⟨fun w I=>h1 w I,fun τ=>?_,h3,h4⟩;show(match qo τ r .sg with|some x=>some (Sum.inr x)|none=>none:Option (a.den⊕r.den))=_
     rw[h2 τ];rfl
 | AU=>intro x h;obtain rfl:()=x:=aG h;exact⟨fun w I=>rfl,fun τ=>rfl,rfl,rfl⟩
 | slice e=>intro x h;cases h
 | pair a b=>intro x h;cases h
 | _=>intro x h;cases h
theorem Sg:∀{v:aO} {t:Ty} {x:t.den} {σ σ':St} {u:aO},qo σ t v=some x→gj σ u=some σ'→qo σ' t v=some x:=by
 have one:∀{u:aO} {e:Ty} {v:aO} {l:List e.den} {σ σ':St},fS e σ v=some l→gj σ u=some σ'→fS e σ' v=some l:=by
  intro u;induction u with
  | mix p q UF Si =>
    intro e v l σ σ' h hf;simp only[gj] at hf;cases hp:gj σ p with
    | none=>rw[hp] at hf;cases hf
    | some σ1=>rw[hp] at hf;exact Si (UF h hp) hf
  | whole b aA=>intro e v l σ σ' h hf;exact CZ h hf
  | part b aA lo n=>intro e v l σ σ' h hf;exact CZ h hf
  | _=>intro e v l σ σ' h hf;obtain rfl:=aG hf;exact h
 intro v;induction v with
 | data u y =>
   intro t x σ σ' u h hf;cases t with
   | slice e=>exact one h hf
   | _=>exact h
 | mix p q UF Si =>
   intro t x σ σ' u h hf;cases t with
   | pair s r =>
     obtain⟨y,z,h1,h2,rfl⟩:=E5 h;exact O2 (UF h1 hf) (Si h2 hf)
   | slice e=>exact one h hf
   | _=>cases h
 | sg=>intro t x σ σ' u h hf;exact(oI h).2.1 _
 | _ =>
   intro t x σ σ' u h hf;cases t with
   | slice e=>exact one h hf
   | _=>cases h
theorem IE{γ:Gh}{mem:Nat→Option bE}{v:aO}{cs:List Value}(h:b6 γ mem w v .cells cs)(h1:cD v=1):∃c,cs=[c]:=by
 have:=h.length;rw[h1] at this;exact List.length_eq_one_iff.1 this
theorem UG:∀{v:aO} {t:Ty} {x:t.den} {cs:List Value} {σ σ':St} {γ:Gh} {a:Act},cF B N γ σ a w→b6 γ σ.mem w v .cells cs→qo σ t v=some x→gj σ v=some σ' →
  ∃γ',cF B N γ' σ' a w∧Ext B γ σ.mem w γ' σ'.mem w∧bt w γ'.I t x cs:=by
 have sl:∀{v:aO} {e:Ty} {l:List e.den} {cs:List Value} {σ σ':St} {γ:Gh} {a:Act},cD v=1→(∀c,b6 γ σ.mem w v .cells [c]→b6 γ σ.mem w v .val [c])→cF B N γ σ a w→b6 γ σ.mem w v .cells cs→fS e σ v=some l→gj σ v=some σ' →
   ∃γ',cF B N γ' σ' a w∧Ext B γ σ.mem w γ' σ'.mem w∧bt w γ'.I (.slice e) l cs:=by
  intro v e l cs σ σ' γ a h1 hval h hc hl hf;obtain⟨c,rfl⟩:=IE hc h1;exact E4 h (hval c hc) hl hf
 intro v;induction v with
 | data u y =>
   intro t x cs σ σ' γ a h hc hl hf;obtain rfl:=aG hf;have key:(∃q:u=t,x=q▸y):=by
    cases t with
    | slice e =>
      rcases lM (show fS e σ (.data u y)=some x from hl) with g|⟨g,_⟩|⟨_,_,_,g,_⟩|⟨_,_,_,_,_,g,_⟩
      ·injection g with g1 g2;subst g1;exact⟨rfl,(eq_of_heq g2).symm⟩
      ·cases g
      ·cases g
      ·cases g
    | _=>exact Ty.jU hl
   obtain⟨q,hq⟩:=key;subst q;subst hq;exact⟨γ,h,Ext.refl _ _ _ _,hc⟩
 | mix p q UF Si =>
   intro t x cs σ σ' γ a h hc hl hf;cases t with
   | pair s r =>
     obtain⟨c1,c2,rfl,h1,h2⟩:=hc;obtain⟨y,z,hp,hq,rfl⟩:=E5 hl;obtain⟨σ1,YJ,hf1⟩:=we hf;obtain⟨ij,s1,s2,s3⟩:=UF h h1 hp YJ;obtain⟨Hi,t1,t2,t3⟩:=Si s1 (h2.ext s2) (Sg hq YJ) hf1;exact⟨Hi,t1,s2.trans t2,c1,c2,rfl,bt.mono t2.I t2.cells s3,t3⟩
   | slice e=>exact absurd hl (by intro k;cases k)
   | _=>cases hl
 | nr =>
   intro t x cs σ σ' γ a h hc hl hf;cases t with
   | slice e=>exact sl (v:=.nr) rfl (fun c k=>k) h hc hl hf
   | _=>cases hl
 | whole b aA =>
   intro t x cs σ σ' γ a h hc hl hf;cases t with
   | slice e=>exact sl (v:=.whole b aA) rfl (fun c k=>k) h hc hl hf
   | _=>cases hl
 | part b aA lo n =>
   intro t x cs σ σ' γ a h hc hl hf;cases t with
   | slice e=>exact sl (v:=.part b aA lo n) rfl (fun c k=>k) h hc hl hf
   | _=>cases hl
 | sg =>
   intro t x cs σ σ' γ a h hc hl hf;obtain rfl:=aG hf;obtain rfl:cs=[.nilIface]:=hc;exact⟨γ,h,Ext.refl ..,(oI hl).1 _ _⟩
 | _ =>
   intro t x cs σ σ' γ a h hc hl hf;cases t with
   | slice e=>exact absurd hl (by intro k;cases k)
   | _=>cases hl
theorem lN{t:Ty}{x:t.den}{v:aO}{val:Value}(h:cF B N γ σ a w)(hv:b6 γ σ.mem w v .val [val])(hg:yl σ t v=some (x,σ')) :
  ∃γ',cF B N γ' σ' a w∧Ext B γ σ.mem w γ' σ'.mem w∧b6 γ' σ'.mem w (.data t x) .val [val]:=by
 unfold yl at hg;split at hg
 ·rename_i u y;split at hg
  ·rename_i y2 hy;obtain⟨rfl,rfl⟩:=ec (aG hg);obtain⟨q,hq⟩:=Ty.jU hy;subst q;subst hq;exact⟨γ,h,Ext.refl _ _ _ _,hv⟩
  ·cases hg
 ·split at hg
  ·rename_i y σ1 hl hf;obtain⟨rfl,rfl⟩:=ec (aG hg);cases v with
   | data u y'=>rename_i hne;exact absurd rfl (hne u y')
   | mix p q =>
     obtain⟨c1,c2,e1,h1,h2⟩:=hv;obtain rfl:val=_:=by simpa using e1
     obtain⟨γ',s1,s2,s3⟩:=UG h (show b6 γ σ.mem w (.mix p q) .cells (c1++c2) from⟨c1,c2,rfl,h1,h2⟩) hl hf;refine⟨γ',s1,s2,_,s3,?_⟩;cases t with
     | pair s r=>rfl
     | slice e=>exact absurd hl (by intro k;cases k)
     | _=>cases hl
   | nr =>
     cases t with
     | slice e=>obtain⟨γ',s1,s2,s3⟩:=E4 h hv hl hf;exact⟨γ',s1,s2,_,s3,rfl⟩
     | _=>cases hl
   | whole b aA =>
     cases t with
     | slice e=>obtain⟨γ',s1,s2,s3⟩:=E4 h hv hl hf;exact⟨γ',s1,s2,_,s3,rfl⟩
     | _=>cases hl
   | part b aA lo n =>
     cases t with
     | slice e=>obtain⟨γ',s1,s2,s3⟩:=E4 h hv hl hf;exact⟨γ',s1,s2,_,s3,rfl⟩
     | _=>cases hl
   | sg =>
     obtain rfl:=aG hf;obtain hv:[val]=[Value.nilIface]:=hv;obtain rfl:val=.nilIface:=by simpa using hv
     exact⟨γ,h,Ext.refl ..,[.nilIface],(oI hl).1 _ _,by rw[(oI hl).2.2.1]⟩
   | _ =>
     cases t with
     | slice e=>exact absurd hl (by intro k;cases k)
     | _=>cases hl
  ·cases hg
end
end Go.Ge
namespace Go.Ge
open RowKit
section
variable {P:Program} {B:qq} {N:Nat} {γ:Gh} {σ σ':St} {a:Act} {w:World} {d:Option Nat} {cx:Ctx}
theorem UH{bx:bE}{k:Nat}{c v:aO}{f:aO→Tree aO}(hb:bx.buf=false)(hv:bx.val=v)(h:(G2 v k f).run=some c):({ bx with val:=c }:bE).row=bx.row:=by
 obtain⟨val,tid,buf,ro,lk,aA⟩:=bx;subst hb;subst hv;cases val with
 | data t x =>
   obtain⟨y,h1,h2⟩:=bind_some (show((KI t x k f).bind fun y=>.ret (.data t y)).run=some c from h);obtain rfl:=aG h2;cases t with
   | arr n e=>cases k<;>exact absurd h1 (by intro k;cases k)
   | _=>rfl
 | mix p q =>
   cases k with
   | zero =>
     obtain⟨y,h1,h2⟩:=bind_some (show((f p).bind fun v=>.ret (.mix v q)).run=some c from h);obtain rfl:=aG h2;rfl
   | succ k =>
     obtain⟨y,h1,h2⟩:=bind_some (show((G2 q k f).bind fun v=>.ret (.mix p v)).run=some c from h);obtain rfl:=aG h2;rfl
 | _=>exact absurd h (by intro k;cases k)
theorem ab8{bx:bE}{e:Ty}{l:List e.den}{i:Int}{y:e.den}(hb:bx.buf=true)(hv:bx.val=.data (.slice e) l):({ bx with val:=.data (.slice e) (nq l i y) }:bE).row=bx.row:=by
 rw[bE.dh hb hv,bE.dh (bx:={ bx with val:=.data (.slice e) (nq l i y) }) (l:=nq l i y) hb rfl];simp[nq]
theorem IF{bx:bE}{p:List D0}{v c:aO}(h:(KJ bx.buf p bx.val v).run=some c)(h0:p=[]→bx.buf=false→({ bx with val:=v }:bE).row=bx.row) :
  ({ bx with val:=c }:bE).row=bx.row:=by
 unfold KJ at h;split at h
 ·rename_i bu;cases p with
  | nil=>obtain rfl:=aG h;exact h0 rfl bu
  | cons s p =>
    cases s with
    | GX k off=>exact UH bu rfl h
    | idx i size =>
      simp only[xd] at h;split at h
      ·rename_i n e l hv;obtain⟨x,hx,h2⟩:=bS h;obtain⟨z,hz,h3⟩:=bind_some h2;split at h3
       ·obtain rfl:=aG h3;rw[bE.pF bu hv];exact bE.pF (bx:={ bx with val:=_ }) bu rfl
       ·exact absurd h3 (by intro k;cases k)
      ·exact absurd h (by intro k;cases k)
 ·rename_i bu;split at h
  ·rename_i i size p e l hv;obtain⟨x,hx,h2⟩:=bS h;obtain⟨z,hz,h3⟩:=bind_some h2;split at h3
   ·obtain rfl:=aG h3;exact ab8 bu hv
   ·exact absurd h3 (by intro k;cases k)
  ·exact absurd h (by intro k;cases k)
theorem C0(h:cF B N γ σ a w){b aA:Nat}{p:List D0}{fit:aO→Bool}{u:aO}{es:List Value}(hr:(storeAt b aA p fit u σ).run=some σ')(hu:b6 γ σ.mem w u .cells es)
  (hlen:∀old,fit old=true→es.length=cD old) (hrow:∀bx:bE,fit bx.val=true→bx.buf=false→({ bx with val:=u }:bE).row=bx.row)
  {blk cap:Nat} (hl:γ.loc b=some (blk,cap)) :
  ∃w',(storeCells ⟨blk,ck p,none⟩ es).run P w=.ok () w'∧cF B N γ σ' a w'∧Ext B γ σ.mem w γ σ'.mem w':=by
 unfold storeAt at hr;split at hr
 case h_2=>exact absurd hr (by intro k;cases k)
 rename_i bx hb;obtain⟨hc,hr2⟩:=aB hr;simp only[dW,nj] at hc;obtain⟨⟨bh,hlk⟩,hro⟩:=hc;obtain⟨old,hn,iD⟩:=bind_some hr2;obtain⟨hfit,mh⟩:=aB iD;obtain⟨c,hs,ND⟩:=bind_some mh;obtain rfl:=aG ND;have hel:=hlen old hfit;have hrw:({ bx with val:=c }:bE).row=bx.row:=IF hs fun hp bu=>by
  subst hp;rw[bu] at hn;obtain rfl:=aG hn;exact hrow bx hfit bu
 have ig:=h.ok.boxes b bx hb;unfold cr at ig;unfold Xl at hn;unfold KJ at hs;have hbb:bx.buf=false∨bx.buf=true:=by cases bx.buf<;>simp
 rcases hbb with bu|bu
 ·rw[bu] at ig hn hs;obtain⟨de,cap',cur,tid,fr,h1,h2,h3,gL,h4⟩:=ig;rw[hl] at h1;obtain⟨rfl,rfl⟩:=ec (aG h1);obtain⟨k1,k2⟩:=v8 h4 hn;have k1':ck p+es.length≤cur.toList.length:=by rw[hel];exact k1
  have hst:=cv (P:=P) blk (ck p) tid fr es 0 cur w h2 h3 (by simpa using k1') (fun v hv=>hu.one v hv);rw[yf] at hst;have hsz:(splice cur.toList (ck p) es).toArray.size=cur.size:=by have:=bA k1';simpa using this
  obtain⟨m1,m2⟩:=h.ok.write hb hro hl h2 (cur':=(splice cur.toList (ck p) es).toArray) (v:=c) hsz hrw
   (fun w' mem' hx hg=>by
    show cr γ mem' w' b { bx with val:=c }
    unfold cr;simp only[bu];exact⟨blk,cap,_,tid,fr,hl,hg,h3.same hsz,gL,by simpa using zo (h4.ext hx) hn hs (hu.ext hx) hel⟩)
  exact⟨_,hst,h.go m2 m1,m2⟩
 ·rw[bu] at ig hn hs;obtain⟨e,l,h1,h2,h3⟩:=ig;rw[h1] at hn hs;rcases h3 with ⟨h3,_⟩|⟨de,cap',cur,tid,fr,h3,h4,h5,gL,h6,h7,h8,h9⟩
  ·rw[hl] at h3;cases h3
  ·rw[hl] at h3;obtain⟨rfl,rfl⟩:=ec (aG h3);cases p with
   | nil=>cases hn
   | cons s p =>
     cases s with
     | GX k off=>cases hn
     | idx i size =>
       obtain⟨hsb,hn2⟩:=aB hn;have hsz:=fu hsb;obtain⟨x,hx,hn3⟩:=bS hn2;obtain⟨x',hx',hs2⟩:=bS hs;obtain rfl:x=x':=aG (hx.symm.trans hx');obtain⟨z,hq,hs3⟩:=bind_some hs2;cases hz:toS e z with
       | none=>rw[hz] at hs3;cases hs3
       | some y =>
         rw[hz] at hs3;obtain rfl:=aG hs3;obtain⟨h0,hx2⟩:=si hx;have hr:=h9 _ x hx2;have hrl:=hr.length;have hi:i.toNat<l.length:=(List.getElem?_eq_some_iff.1 hx2).1;have hm2:(i.toNat+1)*e.size≤cap*e.size:=sS _ (by omega);rw[A3] at hm2;have hrr:b6 γ σ.mem w (.data e x) .cells ((cur.toList.drop (i.toNat*e.size)).take e.size):=hr;obtain⟨k1,k2⟩:=v8 hrr hn3;rw[hrl] at k1;have hcs:cur.toList.length=cap*e.size:=by simpa using h8
         have hoff:ck (.idx i size::p)=i.toNat*e.size+ck p:=by simp only[ck,hsz]
         have k1':ck (.idx i size::p)+es.length≤cur.toList.length:=by rw[hoff,hel,hcs];omega
         have hst:=cv (P:=P) blk (ck (.idx i size::p)) tid fr es 0 cur w h4 h5.th (by simpa using k1') (fun v hv=>hu.one v hv);rw[yf] at hst;have ZK:(splice cur.toList (ck (.idx i size::p)) es).toArray.size=cur.size:=by have:=bA k1';simpa using this
         have e1:=rD cur.toList (i.toNat*e.size) (ck p) e.size es (by rw[hel];exact k1) (by rw[hcs];omega);obtain⟨m1,m2⟩:=h.ok.write hb hro hl h4 (cur':=(splice cur.toList (ck (.idx i size::p)) es).toArray) (v:=.data (.slice e) (nq (α:=e.den) l i y)) ZK hrw
          (fun w' mem' hx hg=>by
           show cr γ mem' w' b { bx with val:=.data (.slice e) (nq (α:=e.den) l i y) }
           unfold cr;simp only[bu];refine⟨e,_,rfl,h2,.inr ⟨blk,cap,_,tid,fr,hl,hg,h5.same ZK,gL,?_,h7,by rw[ZK];exact h8,?_⟩⟩
           ·exact jl (NB List.length_set) h6
           ·have hzz:=KU hz (zo (hrr.ext hx) hn3 hq (hu.ext hx) hel);have:=Lu (w:=w') (I:=γ.I) (l:=l) (n:=l.length) (cs:=cur.toList) rfl (by rw[hcs];exact sS _ h6)
             (fun j x hj=>bt.mono hx.I hx.cells (h9 j x hj)) hi hzz
            rw[e1,←hoff] at this;exact this)
         exact⟨_,hst,h.go m2 m1,m2⟩
theorem Xx{mem:Nat→Option bE}:∀{t:Ty} {x:t.den} {cs:List Value},bt w γ.I t x cs→b6 γ mem w (Zv t x) .cells cs:=by
 intro t;induction t with
 | pair a b jm lG=>intro x cs h;obtain⟨c1,c2,e,h1,h2⟩:=h;exact⟨c1,c2,e,h1,lG h2⟩
 | _=>intro x cs h;exact h
theorem O3{mem:Nat→Option bE}{v:aO}{cs:List Value}(h:b6 γ mem w v .cells cs):b6 γ mem w (Zw v) .cells cs:=by
 cases v with
 | data t x=>exact Xx h
 | _=>exact h
theorem Sj{bx:bE}(hb:bx.buf=false)(hv:Zy bx.val=true):bx.row=none:=by
 unfold bE.row;rw[hb];obtain⟨val,tid,buf,ro,lk,aA⟩:=bx;cases val with
 | data t x=>cases t<;>first|rfl|cases hv
 | mix p q=>rfl
 | _=>cases hv
theorem NF(h:cF B N γ σ a w){b aA:Nat}{p:List D0}{n:Nat}{u:aO}{es:List Value}(hr:(ry b aA p n u σ).run=some σ')(hu:b6 γ σ.mem w u .cells es)
  (hlen:es.length=n) {blk cap:Nat} (hl:γ.loc b=some (blk,cap)) :
  ∃w',(storeCells ⟨blk,ck p,none⟩ es).run P w=.ok () w'∧cF B N γ σ' a w'∧Ext B γ σ.mem w γ σ'.mem w':=by
 unfold ry at hr;split at hr
 case h_2=>exact absurd hr (by intro k;cases k)
 rename_i bx hb;obtain⟨hc,hr2⟩:=aB hr;simp only[dW,nj] at hc;obtain⟨⟨⟨⟨bh,hlk⟩,hro⟩,bu⟩,hpv⟩:=hc;obtain⟨old,hn,iD⟩:=bind_some hr2;obtain⟨hfit,mh⟩:=aB iD;obtain⟨c,hs,ND⟩:=bind_some mh;obtain⟨hpc,hr6⟩:=aB ND;obtain rfl:=aG hr6;have hel:es.length=cD old:=hlen.trans (fu hfit).symm;have hrw:({ bx with val:=c }:bE).row=bx.row:=(Sj (bx:={ bx with val:=c }) bu hpc).trans (Sj bu hpv).symm;have ig:=h.ok.boxes b bx hb;unfold cr at ig;rw[bu] at ig;obtain⟨de,cap',cur,tid,fr,h1,h2,h3,gL,h4⟩:=ig;rw[hl] at h1;obtain⟨rfl,rfl⟩:=ec (aG h1);obtain⟨k1,k2⟩:=v8 (O3 h4) hn;have k1':ck p+es.length≤cur.toList.length:=by rw[hel];exact k1
 have hst:=cv (P:=P) blk (ck p) tid fr es 0 cur w h2 h3 (by simpa using k1') (fun v hv=>hu.one v hv);rw[yf] at hst;have hsz:(splice cur.toList (ck p) es).toArray.size=cur.size:=by have:=bA k1';simpa using this
 obtain⟨m1,m2⟩:=h.ok.write hb hro hl h2 (cur':=(splice cur.toList (ck p) es).toArray) (v:=c) hsz hrw
  (fun w' mem' hx hg=>by
   show cr γ mem' w' b { bx with val:=c }
   unfold cr;simp only[bu];exact⟨blk,cap,_,tid,fr,hl,hg,h3.same hsz,gL,by simpa using zo (O3 (h4.ext hx)) hn hs (hu.ext hx) hel⟩)
 exact⟨_,hst,h.go m2 m1,m2⟩
theorem Bf{ty:TypeId}{blk off n:Nat}{v:Value}{w':World}(hs:(Go.sizeOf ty).run P w=.ok n w)(hn:v.cells.toList.length=n)(hst:(storeCells ⟨blk,off,none⟩ v.cells.toList).run P w=.ok () w') :
  (Instr.storeAt ty (.pointer (some ⟨blk,off,none⟩)) v).run P w=.ok () w':=by
 have hn':v.cells.size=n:=by simpa using hn
 simp only[Instr.storeAt,Instr.sureAddr,storeVar,Sem.run_bind,Sem.run_pure,Result.andThen_ok,hs,hn',ne_eq,not_true_eq_false,G1];exact hst
theorem JI(hc:eW P cx){bf:List Nat}{ty:TypeId}{x y:Operand}(h:cF B N γ σ a w)(hr:(kI cx bf ty (cc σ x) (cc σ y) σ).run=some σ') :
  ∃w' γ',(Instr.storeAt ty (a.eval x) (a.eval y)).run P w=.ok () w'∧cF B N γ' σ' a w'∧Ext B γ σ.mem w γ' σ'.mem w':=by
 have hv:=h.cc x;have hy:=h.cc y;unfold kI at hr;split at hr
 case h_2=>exact absurd hr (by intro k;cases k)
 rename_i b aA p hx;rw[hx] at hv;split at hr
 case h_2=>exact absurd hr (by intro k;cases k)
 rename_i bx hb;obtain⟨bh,hr2⟩:=aB hr;have bh:=fu bh;obtain⟨old,hn,iD⟩:=bind_some hr2;obtain⟨blk,cap,hl,hval⟩:=aV hb bh hv.2;obtain hval:a.eval x=_:=by simpa using hval
 rw[hval];split at iD
 ·rename_i u z;obtain⟨hT,mh⟩:=aB iD;have hT:=iw hT;have hD:=hc.T _ _ hT;cases hq:cC bf 8000000&&Zx u (cc σ y) with
  | true =>
    rw[hq] at mh;have how:=(Bool.and_eq_true_iff.1 hq).2;have hyc:b6 γ σ.mem w (cc σ y) .cells (a.eval y).cells.toList:=by
     refine hy.mC (fun u' e=>?_) (fun e=>?_)
     ·rw[e] at how;cases how
     ·rw[e] at how;cases how
    have hsz:cD (cc σ y)=u.size:=by
     unfold Zx at how;split at how
     ·rename_i e;rw[e];exact Xs how
     ·rename_i e;rw[e];exact LB how
     ·cases how
    have O4:(a.eval y).cells.toList.length=u.size:=by rw[hyc.length,hsz]
    obtain⟨w',k1,k2,k3⟩:=NF (P:=P) h mh hyc O4 hl;exact⟨w',γ,Bf (hD.sizeOf w) O4 k1,k2,k3⟩
  | false =>
  rw[hq] at mh;replace mh:(match yl σ u (cc σ y) with|some (y,σ)=>storeAt b aA p (Xn u) (.data u y) σ|none=>.fail).run=some σ':=mh;split at mh
  ·rename_i y0 σ1 hg;obtain⟨ij,s1,s2,s3⟩:=lN h hy hg;obtain⟨cs,c1,c2⟩:=s3;obtain hcv:a.eval y=_:=by simpa using c2
   have YI:(a.eval y).cells.toList=cs:=by rw[hcv];exact rC c1
   obtain⟨gy,g1,g2,g3⟩:=s2.boxes b bx hb;have hl1:ij.loc b=some (blk,cap):=by
    have hv':gy.aA=bx.aA:=by
     unfold storeAt at mh;split at mh
     ·rename_i bx2 hb2;rw[g1] at hb2;obtain rfl:=aG hb2;obtain⟨hc,_⟩:=aB mh;simp only[dW] at hc;have:=fu hc.1.1;omega
     ·exact absurd mh (by intro k;cases k)
    rw[(g3 hv').1];exact hl
   obtain⟨w',k1,k2,k3⟩:=C0 (P:=P) s1 mh (u:=.data u y0) (es:=cs) c1 (fun old hf=>by
    unfold Xn at hf;split at hf
    ·rename_i t q;obtain rfl:=Ty.eq_of_beq hf;exact c1.length
    ·cases hf) (fun bx hf bu=>by
    unfold Xn at hf;split at hf
    ·rename_i t q mj;obtain rfl:=Ty.eq_of_beq hf;cases t with
     | arr n e=>rw[bE.pF bu mj];exact bE.pF (bx:={ bx with val:=_ }) bu rfl
     | _=>unfold bE.row;rw[bu,mj]
    ·cases hf) hl1
   refine⟨w',ij,Bf (hD.sizeOf w) ?_ ?_,k2,s2.trans k3⟩
   ·rw[YI];exact c1.length
   ·rw[YI];exact k1
  ·exact absurd mh (by intro k;cases k)
 ·obtain⟨hT,mh⟩:=aB iD;simp only[dW] at hT;obtain⟨RB,hrf⟩:=hT;have key:∀{v:aO},xe cx ty v=true→isRef v=true→cD v=1∧(Go.sizeOf ty).run P w=.ok 1 w:=by
   intro v h1 h2;unfold xe at h1;split at h1
   ·cases h2
   ·split at h1
    ·rename_i e hT;exact⟨rfl,(hc.T _ _ hT).sizeOf w⟩
    ·cases h1
   ·exact⟨rfl,(hc.oX _ h1).2.1 w⟩
   ·exact⟨rfl,(hc.oX _ h1).2.1 w⟩
   ·exact⟨rfl,(hc.oX _ h1).2.1 w⟩
   ·cases h1
  obtain⟨h1,hsz⟩:=key RB hrf;have hyc:b6 γ σ.mem w (cc σ y) .cells (a.eval y).cells.toList:=by
   refine hy.mC (fun u e=>?_) (fun e=>?_)
   ·rw[e] at hrf;cases hrf
   ·rw[e] at hrf;cases hrf
  have O4:(a.eval y).cells.toList.length=1:=by rw[hyc.length,h1]
  obtain⟨w',k1,k2,k3⟩:=C0 (P:=P) h mh hyc (fun old hf=>by
   simp only[EK,dW] at hf;rcases hf with hf|hf
   ·rw[O4,(key hf.1 hf.2).1]
   ·rw[O4];cases old<;>first|rfl|cases hf) (fun bx hf bu=>by
   simp only[EK,dW] at hf;have e1:∀{v:aO} {bx:bE},(isRef v=true∨Ws v=true)→bx.buf=false→bx.val=v→bx.row=none:=by
    intro v bx h1 h2 h3;unfold bE.row;rw[h2,h3];cases v<;>first|rfl|(rcases h1 with h1|h1<;>cases h1)
   rw[e1 (hf.elim (fun q=>.inl q.2) .inr) bu rfl];exact e1 (bx:={ bx with val:=cc σ y }) (.inl hrf) bu rfl) hl
  exact⟨w',γ,Bf hsz O4 k1,k2,k3⟩
theorem qR(t:TypeId)(v:Value):(newVar t v).run P w=.ok ⟨w.heap.size,0,none⟩ (w.alloc (.cells v.cells t)):=by
 simp[newVar,newRow]
theorem Cp{mem:Nat→Option bE}{w':World}{b:Nat}{bx:bE}{cap:Nat}:b6 (bB γ b (some (w.heap.size,cap))) (cl mem b bx) w' (.ptr b bx.aA []) .val [.pointer (some ⟨w.heap.size,0,none⟩)] :=
 ⟨⟨_,rfl,rfl⟩,gC (bq _ _) rfl ⟨w.heap.size,cap,by simp[bB],rfl⟩⟩
theorem Sk(hc:eW P cx){elem:TypeId}{nb k:Nat}{t:Ty}(h:cF B N γ σ a w)(hd:k<N)(hT:find cx.T elem=some t)
  (hr:(σ.aL (nb+k) (.data t t.zero) 0 false fun aA σ=>.ret (σ.put k (.ptr (nb+k) aA []))).run=some σ') :
  mV P B N γ σ a w (some k) (Instr.alloc elem true (.tuple #[])) σ':=by
 obtain⟨aA,bh,hr2⟩:=dI hr;obtain rfl:=aG hr2;obtain⟨z,hz,hzc⟩:=(hc.T _ _ hT).zero w;obtain⟨m1,m2⟩:=h.ok.newVar (b:=nb+k) (v:=.data t t.zero) (tid:=0) bh (cs:=z.cells) elem (.inl rfl) (by rw[hzc];exact mB w γ.I t);refine⟨.pointer (some ⟨w.heap.size,0,none⟩),_,_,?_,h.step m2 m1 hd Cp,m2⟩;simp only[Instr.alloc,Sem.run_bind,hz,Result.andThen_ok,qR,Sem.run_pure]
theorem JJ(hc:eW P cx){elem:TypeId}{nb k:Nat}(h:cF B N γ σ a w)(hd:k<N)(hT:cC cx.oX elem=true)
  (hr:(σ.aL (nb+k) .undef 0 false fun aA σ=>.ret (σ.put k (.ptr (nb+k) aA []))).run=some σ') :
  mV P B N γ σ a w (some k) (Instr.alloc elem true (.tuple #[])) σ':=by
 obtain⟨aA,bh,hr2⟩:=dI hr;obtain rfl:=aG hr2;obtain⟨z,hz,hone⟩:=(hc.oX _ hT).2.2;have hz:=hz w;obtain⟨m1,m2⟩:=h.ok.newVar (b:=nb+k) (v:=.undef) (tid:=0) bh (cs:=z.cells) elem (.inl rfl) ⟨z,by cases z<;>first|rfl|(simp[Value.oneCell'] at hone),hone⟩;refine⟨.pointer (some ⟨w.heap.size,0,none⟩),_,_,?_,h.step m2 m1 hd Cp,m2⟩;simp only[Instr.alloc,Sem.run_bind,hz,Result.andThen_ok,qR,Sem.run_pure]
theorem Sl{b aA:Nat}:∀{fs:List mw} {j:Nat} {σ:St} {γ:Gh} {r:aO×St},bp B γ σ.mem w→(mkObj b aA fs j σ).run=some r →
  ∃ij,bp B ij r.2.mem w∧Ext B γ σ.mem w ij r.2.mem w∧r.2.slots=σ.slots ∧
   ∀γ' mem' w',Ext B ij r.2.mem w γ' mem' w'→(∃bx blk cap,mem' b=some bx∧aA≤bx.aA∧γ'.loc b=some (blk,cap))→b6 γ' mem' w' r.1 .cells (Lq fs):=by
 intro fs;induction fs with
 | nil=>intro j σ γ r h hr;obtain rfl:=aG hr;exact⟨γ,h,Ext.refl _ _ _ _,rfl,fun _ _ _ _ _=>rfl⟩
 | cons f r ih =>
   intro j σ γ q h hr;cases f with
   | dat t =>
     obtain⟨y,h1,h2⟩:=bind_some hr;obtain rfl:=aG h2;obtain⟨ij,k1,k2,k3,k4⟩:=ih h h1;exact⟨ij,k1,k2,k3,fun γ' mem' w' hx hb=>⟨_,_,rfl,mB _ _ t,k4 γ' mem' w' hx hb⟩⟩
   | one =>
     obtain⟨y,h1,h2⟩:=bind_some hr;obtain rfl:=aG h2;obtain⟨ij,k1,k2,k3,k4⟩:=ih h h1;exact⟨ij,k1,k2,k3,fun γ' mem' w' hx hb=>⟨[.pointer none],_,rfl,rfl,k4 γ' mem' w' hx hb⟩⟩
   | self =>
     obtain⟨y,h1,h2⟩:=bind_some hr;obtain rfl:=aG h2;obtain⟨ij,k1,k2,k3,k4⟩:=ih h h1;refine⟨ij,k1,k2,k3,fun γ' mem' w' hx hb=>⟨[.pointer none],_,rfl,?_,k4 γ' mem' w' hx hb⟩⟩;obtain⟨bx,blk,cap,g1,g2,g3⟩:=hb;exact⟨⟨_,rfl,rfl⟩,bx,g1,g2,fun _=>⟨blk,cap,g3,.inl rfl⟩⟩
   | buf e eT =>
     obtain⟨he,jC⟩:=aB hr;have he':0<e.size:=by simpa using he
     obtain⟨v,bh,hr2⟩:=dI jC;obtain⟨y,h1,h2⟩:=bind_some hr2;obtain rfl:=aG h2;obtain⟨m1,m2⟩:=h.Lv (b:=b*1000+999-j) (e:=e) (tid:=eT) bh he';obtain⟨ij,k1,k2,k3,k4⟩:=ih m1 h1;refine⟨ij,k1,m2.trans k2,k3,fun γ' mem' w' hx hb=>⟨[.slice none 0 0],_,rfl,?_,k4 γ' mem' w' hx hb⟩⟩;refine b6.ext (k2.trans hx) (v:=.whole (b*1000+999-j) v) (m:=.cells) ?_;exact⟨⟨_,rfl,rfl⟩,gC (bq _ _) rfl ⟨e,0,rfl,rfl,.inl ⟨by simp[bB],rfl⟩⟩⟩
theorem JK(hc:eW P cx){elem:TypeId}{nb k:Nat}{fs:List mw}(h:cF B N γ σ a w)(hd:k<N)(hT:find cx.qn elem=some fs)
  (hr:((mkObj (nb+k) (KM σ (nb+k)) fs 0 σ).bind fun r=>r.2.aL (nb+k) r.1 elem false fun aA σ=>.ret (σ.put k (.ptr (nb+k) aA []))).run=some σ') :
  mV P B N γ σ a w (some k) (Instr.alloc elem true (.tuple #[])) σ':=by
 obtain⟨r,h1,h2⟩:=bind_some hr;obtain⟨ij,k1,k2,k3,k4⟩:=Sl h.ok h1;obtain⟨aA,bh,hr2⟩:=dI h2;obtain rfl:=aG hr2;obtain⟨z,hz,hzc⟩:=Xp (hc.qn _ _ hT) w;have hle:KM σ (nb+k)≤aA:=by
  unfold KM;split
  ·rename_i bx qs;obtain⟨gy,e1,e2,_⟩:=k2.boxes _ bx qs;have:=bh gy e1;omega
  ·exact w9 _
 let bx:bE:={ val:=r.1,tid:=elem,buf:=false,ro:=false,lk:=false,aA }
 have hw:va B w (w.alloc (.cells z.cells elem)):=(va.refl _ _).alloc k1.base _;have hx:=uw (L:=some (w.heap.size,0)) k1 (bx:=bx) bh hw (cu w _);have ig:cr (bB ij (nb+k) (some (w.heap.size,0))) (cl r.2.mem (nb+k) bx) (w.alloc (.cells z.cells elem)) (nb+k) bx :=
  ⟨w.heap.size,0,z.cells,elem,(0,0),by simp[bB],heap_alloc_new w _,sj _,.inr rfl,by
   rw[hzc];exact k4 _ _ _ hx ⟨bx,w.heap.size,0,bq _ _,hle,by simp[bB]⟩⟩
 have m1:=k1.add bh hw (cu w _) (fun blk k e=>by obtain⟨rfl,rfl⟩:=ec (aG e);exact⟨mq _,by simp⟩) ig;refine⟨.pointer (some ⟨w.heap.size,0,none⟩),_,_,?_,?_,k2.trans hx⟩
 ·simp only[Instr.alloc,Sem.run_bind,hz,Result.andThen_ok,qR,Sem.run_pure]
 ·have:=h.step (k2.trans hx) m1 hd (Cp (bx:=bx));rw[←k3] at this;exact this
theorem IG{b j:Nat}{v:aO}{σ:St}{r:aO×St}(hr:(mz b [] j v σ).run=some r):r=(v,σ):=by
 cases v with
 | data t x=>cases t<;>first|(obtain rfl:=aG hr;rfl)|cases hr
 | _=>cases hr
theorem E6{b j:Nat}{f:mw}{q:List mw}{v:aO}{σ:St}{r:aO×St}(hr:(mz b (f::q) j v σ).run=some r) :
  (∃x u y,v=.mix x u∧(mz b q (j+1) u σ).run=some y∧r=(.mix x y.1,y.2)) ∨
  (∃e eT u,v=.mix .nr u∧0<e.size∧(σ.aL (b*1000+999-j) (.data (.slice e) []) eT true fun aA σ=>(mz b q (j+1) u σ).bind fun x=>.ret (.mix (.whole (b*1000+999-j) aA) x.1,x.2)).run=some r):=by
 cases v with
 | mix a u =>
   cases f with
   | dat t =>
     cases a with
     | data t' z =>
       obtain⟨y,h1,h2⟩:=bind_some (show((mz b q (j+1) u σ).bind fun x=>.ret (.mix (.data t' z) x.1,x.2)).run=some r from hr);exact .inl ⟨_,u,y,rfl,h1,(aG h2).symm⟩
     | _=>cases hr
   | one =>
     cases a with
     | qL =>
       obtain⟨y,h1,h2⟩:=bind_some (show((mz b q (j+1) u σ).bind fun x=>.ret (.mix .qL x.1,x.2)).run=some r from hr);exact .inl ⟨_,u,y,rfl,h1,(aG h2).symm⟩
     | _=>cases hr
   | buf e eT =>
     cases a with
     | nr =>
       obtain⟨he,jC⟩:=aB hr;exact .inr ⟨e,eT,u,rfl,by simpa using he,jC⟩
     | _=>cases hr
   | self=>cases a<;>cases hr
 | _=>cases f<;>cases hr
theorem JL(hc:eW P cx){elem:TypeId}{nb k:Nat}{bf:List Nat}{t:Ty}(h:cF B N γ σ a w)(hd:k<N)(hT:find cx.T elem=some t)
  (hr:(uR nb bf k t σ).run=some σ'):mV P B N γ σ a w (some k) (Instr.alloc elem true (.tuple #[])) σ':=by
 unfold uR at hr;split at hr
 ·rename_i e _;obtain⟨he,jC⟩:=aB hr;have he':0<e.size:=by simpa using he
  obtain⟨v,bh,hr2⟩:=dI jC;obtain⟨m1,m2⟩:=h.ok.Lv (b:=(nb+k)*1000+999) (e:=e) (tid:=0) bh he';obtain⟨aA,afj,iD⟩:=dI hr2;obtain rfl:=aG iD;obtain⟨i,z,i1,i2,i3,i4⟩:=(hc.T _ _ hT).info;have hz:(zeroValue elem).run P w=.ok z w:=by simp[zeroValue,typeInfo,i1,i3]
  have Bc:b6 (bB γ ((nb+k)*1000+999) none) (cl σ.mem ((nb+k)*1000+999) { val:=.data (.slice e) ([]:List e.den),tid:=0,buf:=true,ro:=false,lk:=false,aA:=v }) w (.whole ((nb+k)*1000+999) v) .cells z.cells.toList:=by
   rw[i4];exact⟨⟨_,rfl,rfl⟩,gC (bq _ _) rfl ⟨e,0,rfl,rfl,.inl ⟨by simp[bB],rfl⟩⟩⟩
  obtain⟨n1,n2⟩:=m1.newVar (b:=nb+k) (v:=.whole ((nb+k)*1000+999) v) (tid:=0) afj (cs:=z.cells) elem (.inl rfl) Bc;refine⟨.pointer (some ⟨w.heap.size,0,none⟩),_,_,?_,h.step (m2.trans n2) n1 hd Cp,m2.trans n2⟩;simp only[Instr.alloc,Sem.run_bind,hz,Result.andThen_ok,qR,Sem.run_pure]
 ·exact Sk hc h hd hT hr
theorem NG{b:Nat}:∀{fs:List mw} {j:Nat} {v:aO} {σ:St} {γ:Gh} {r:aO×St} {cs:List Value},bp B γ σ.mem w→b6 γ σ.mem w v .cells cs→(mz b fs j v σ).run=some r →
  ∃ij,bp B ij r.2.mem w∧Ext B γ σ.mem w ij r.2.mem w∧r.2.slots=σ.slots∧b6 ij r.2.mem w r.1 .cells cs:=by
 intro fs;induction fs with
 | nil =>
   intro j v σ γ r cs h hv hr;obtain rfl:=IG hr;exact⟨γ,h,Ext.refl _ _ _ _,rfl,hv⟩
 | cons f q ih =>
   intro j v σ γ r cs h hv hr;rcases E6 hr with ⟨x,u,y,rfl,h1,rfl⟩|⟨e,eT,u,rfl,he,jC⟩
   ·obtain⟨c1,c2,rfl,v1,v2⟩:=hv;obtain⟨ij,k1,k2,k3,k4⟩:=ih h v2 h1;exact⟨ij,k1,k2,k3,c1,c2,rfl,v1.ext k2,k4⟩
   ·obtain⟨k,bh,hr2⟩:=dI jC;obtain⟨y,h1,h2⟩:=bind_some hr2;obtain rfl:=aG h2;obtain⟨c1,c2,rfl,v1,v2⟩:=hv;obtain⟨m1,m2⟩:=h.Lv (b:=b*1000+999-j) (e:=e) (tid:=eT) bh he;obtain⟨ij,k1,k2,k3,k4⟩:=ih m1 (v2.ext m2) h1;obtain rfl:c1=[.slice none 0 0]:=v1;refine⟨ij,k1,m2.trans k2,k3,[.slice none 0 0],c2,rfl,?_,k4⟩;refine b6.ext k2 (v:=.whole (b*1000+999-j) k) (m:=.cells) ?_;exact⟨⟨_,rfl,rfl⟩,gC (bq _ _) rfl ⟨e,0,rfl,rfl,.inl ⟨by simp[bB],rfl⟩⟩⟩
theorem NH{elem:TypeId}{nb k:Nat}{x:Operand}{fs:List mw}(h:cF B N γ σ a w)(hd:k<N)(hu:cc σ x≠.undef)(ht:∀u,cc σ x≠.D1 u)
  (hr:((mz (nb+k) fs 0 (cc σ x) σ).bind fun r=>r.2.aL (nb+k) r.1 elem false fun aA σ=>.ret (σ.put k (.ptr (nb+k) aA []))).run=some σ') :
  mV P B N γ σ a w (some k) (Instr.box elem (a.eval x)) σ':=by
 obtain⟨r,h1,h2⟩:=bind_some hr;obtain⟨ij,k1,k2,k3,k4⟩:=NG h.ok ((h.cc x).mC ht (fun e=>absurd e hu)) h1;obtain⟨aA,bh,hr2⟩:=dI h2;obtain rfl:=aG hr2;obtain⟨m1,m2⟩:=k1.newVar (b:=nb+k) (v:=r.1) (tid:=elem) bh (cs:=(a.eval x).cells) elem (.inr rfl) k4;refine⟨.pointer (some ⟨w.heap.size,0,none⟩),_,_,?_,?_,k2.trans m2⟩
 ·simp only[Instr.box,Sem.run_bind,qR,Result.andThen_ok,Sem.run_pure]
 ·have:=h.step (k2.trans m2) m1 hd Cp;rw[←k3] at this;exact this
theorem Xy{elem:TypeId}{nb k:Nat}{x:Operand}(h:cF B N γ σ a w)(hd:k<N)(hu:cc σ x≠.undef)(ht:∀u,cc σ x≠.D1 u)
  (hr:(σ.aL (nb+k) (cc σ x) 0 false fun aA σ=>.ret (σ.put k (.ptr (nb+k) aA []))).run=some σ') :
  mV P B N γ σ a w (some k) (Instr.box elem (a.eval x)) σ':=by
 obtain⟨aA,bh,hr2⟩:=dI hr;obtain rfl:=aG hr2;obtain⟨m1,m2⟩:=h.ok.newVar (b:=nb+k) (v:=cc σ x) (tid:=0) bh (cs:=(a.eval x).cells) elem (.inl rfl) ((h.cc x).mC ht (fun e=>absurd e hu));refine⟨.pointer (some ⟨w.heap.size,0,none⟩),_,_,?_,h.step m2 m1 hd Cp,m2⟩;simp only[Instr.box,Sem.run_bind,qR,Result.andThen_ok,Sem.run_pure]
theorem ab9{mem:Nat→Option bE}:∀{u v:aO} {k:Nat} {vs:List Value},b6 γ mem w u .many vs→nth u k=some v→∃x,vs[k]?=some x∧b6 γ mem w v .val [x]:=by
 intro u;induction u with
 | mix p q UF Si =>
   intro v k vs h hn;obtain⟨c,r,rfl,h1,h2⟩:=h;cases k with
   | zero=>obtain rfl:=aG hn;exact⟨c,rfl,h1⟩
   | succ k=>obtain⟨x,hx,hr⟩:=Si h2 hn;exact⟨x,by simpa using hx,hr⟩
 | _=>intro v k vs h hn;exact absurd hn (by intro k;cases k)
theorem NI{x:Operand}{k:Nat}{vs v:aO}(h:cF B N γ σ a w)(hd:∀k,d=some k→k<N)(hx:cc σ x=.D1 vs)(hn:nth vs k=some v) :
  mV P B N γ σ a w d (Instr.extract (a.eval x) k) (σ.aP d v):=by
 have hv:=h.cc x;rw[hx] at hv;obtain⟨arr,h1,h2⟩:=hv;obtain h1:a.eval x=_:=by simpa using h1
 obtain⟨y,hy,hr⟩:=ab9 h2 hn;refine bC h hd (x:=y) ?_ hr;rw[h1];have:arr[k]?=some y:=by simpa using hy
 simp only[Instr.extract,this,Sem.run_pure]
theorem ZL:∀{ops:List Operand} {cs:List (Nat×Nat)},cF B N γ σ a w→G5 (ops.map (cc σ))=some cs→cs.length=ops.length ∧
  ∀(i:Nat) b aA,cs[i]?=some (b,aA)→lJ σ.mem b aA fun _=>∃blk cap,γ.loc b=some (blk,cap)∧(ops.map a.eval)[i]?=some (.pointer (some ⟨blk,0,none⟩)):=by
 intro ops;induction ops with
 | nil=>intro cs h hc;obtain rfl:=aG hc;exact⟨rfl,fun i b aA hi=>by cases hi⟩
 | cons o r ih =>
   intro cs h hc;have ho:=h.cc o;simp only[PF] at hc;unfold G5 at hc;split at hc
   ·rename_i heq;cases heq
   ·rename_i b0 acd r0 heq;injection heq with q1 q2
    subst q2;rw[q1] at ho;cases hr:G5 (r.map (cc σ)) with
    | none=>rw[hr] at hc;cases hc
    | some cs' =>
      rw[hr] at hc;obtain rfl:=aG hc;obtain⟨i1,i2⟩:=ih h hr;refine⟨by simp[i1],fun i b aA hi=>?_⟩;cases i with
      | zero =>
        obtain⟨rfl,rfl⟩:=ec (aG hi);obtain⟨bx,k1,k2,k3⟩:=ho.2;refine⟨bx,k1,k2,fun e=>?_⟩;obtain⟨blk,cap,j1,j2⟩:=k3 e;obtain j2:a.eval o=_:=by simpa using j2
        exact⟨blk,cap,j1,by simp[j2,ck]⟩
      | succ i =>
        have:=i2 i b aA (by simpa using hi);simpa using this
   ·cases hc
theorem LD{f:Nat}{caps:Array Operand}{cs:List (Nat×Nat)}(h:cF B N γ σ a w)(hd:∀k,d=some k→k<N)(hcs:G5 (caps.toList.map (cc σ))=some cs) :
  mV P B N γ σ a w d (Instr.makeFunc (.func f) #[] (caps.map a.eval)) (σ.aP d (.fn f cs)):=by
 obtain⟨h1,h2⟩:=ZL h hcs;refine bC h hd (x:=.func (.func f) #[] (caps.map a.eval)) rfl ?_;refine⟨caps.map a.eval,rfl,by rw[h1];simp,fun i b aA hi=>?_⟩;obtain⟨bx,k1,k2,k3⟩:=h2 i b aA hi;refine⟨bx,k1,k2,fun e=>?_⟩;obtain⟨blk,cap,j1,j2⟩:=k3 e;exact⟨blk,cap,j1,by simpa using j2⟩
end
end Go.Ge
