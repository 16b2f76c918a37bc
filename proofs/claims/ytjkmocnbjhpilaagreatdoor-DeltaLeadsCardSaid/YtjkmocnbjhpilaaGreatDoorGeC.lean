/- A ghost interpreter of the model's code, and that it tells the truth: part 3. It says of a function of plain data what a call of it comes to. -/
import Derived.Test.YtjkmocnbjhpilaaGreatDoorGeB
namespace Go.Ge
set_option linter.unusedVariables false
set_option linter.unusedSimpArgs false
open RowKit
section
variable {P:Program} {B:nY} {N:Nat} {γ:Gh} {σ σ':St} {a:Act} {w:World} {d:Option Nat} {cx:Ctx}
theorem Cp{s:TypeId}{fs:Array Field}{k:Nat}{f:Field}{u:Ty}(hs:P.underlying s=some (.struct fs))(hf:fs.toList[k]?=some f)(hu:Den P u f.type)(h0:0<u.size)(blk off:Nat) :
  (Instr.fieldAt s (.pointer (some ⟨blk,off,none⟩)) k).run P w=.ok (.pointer (some ⟨blk,off+f.offset,none⟩)) w:=by
 have hf':fs[k]?=some f:=by simpa using hf
 have hz:¬(u.size=0):=by omega
 simp only[Instr.fieldAt,Sem.run_bind,run_underlying hs,Result.andThen_ok,hf',Instr.sureAddr,Sem.run_pure,fieldPlace,hu.sizeOf w,if_neg hz,addr_add]
theorem Iy{s:TypeId}{fs:Array Field}{k:Nat}{f:Field}{i:TypeInfo}(hs:P.underlying s=some (.struct fs))(hf:fs.toList[k]?=some f)(hi:P.info? f.type=some i)(h0:0<i.size)(blk off:Nat) :
  (Instr.fieldAt s (.pointer (some ⟨blk,off,none⟩)) k).run P w=.ok (.pointer (some ⟨blk,off+f.offset,none⟩)) w:=by
 have hf':fs[k]?=some f:=by simpa using hf
 have hz:¬(i.size=0):=by omega
 have hsz:(Go.sizeOf f.type).run P w=.ok i.size w:=by simp[Go.sizeOf,typeInfo,hi]
 simp only[Instr.fieldAt,Sem.run_bind,run_underlying hs,Result.andThen_ok,hf',Instr.sureAddr,Sem.run_pure,fieldPlace,hsz,if_neg hz,addr_add]
theorem yY{t:Ty}{s:TypeId}(ht:Den P t s){k:Nat}{u:Ty}{o:Nat}(hu:rG t k=some u)(ho:gR t k=some o) :
  ∃(fs:Array Field) (f:Field),P.underlying s=some (.struct fs)∧fs.toList[k]?=some f∧f.offset=o∧Den P u f.type∧0<u.size:=by
 cases t with
 | pair a b =>
   obtain⟨fs,h1,h2,_⟩:=ht.pair
   obtain⟨f,k1,k2,k3,k4⟩:=h2.at hu ho
   exact⟨fs,f,h1,k1,by omega,k3,k4⟩
 | _=>cases k<;>cases hu
theorem yd(hc:eG P cx){s:TypeId}{x:Operand}{k:Nat}(h:cG B N γ σ a w)(hd:∀k,d=some k→k<N)(hr:(dV cx d s (cq σ x) k σ).run=some σ') :
  mb P B N γ σ a w d (Instr.fieldAt s (a.eval x) k) σ':=by
 have hv:=h.cq x
 unfold dV at hr
 split at hr
 ·rename_i u y hx
  rw[hx] at hv
  obtain⟨hb,hr2⟩:=aA hr
  have ht:=hc.T _ _ (gr hb)
  split at hr2
  ·rename_i o t z hf
   obtain rfl:=Option.some.inj hr2
   obtain⟨blk,off,cs,h1,h2,h3⟩:=hv
   obtain h1:a.eval x=_:=by simpa using h1
   obtain⟨t',z',e1,e2,e3,e4,e5⟩:=yW (w:=w) h2 (show l8 u y k=some (o,.data t z) from hf)
   cases e1
   obtain⟨fs,f,g1,g2,g3,g4,g5⟩:=yY ht e2 e3
   refine bG h hd (by rw[h1];exact Cp g1 g2 g4 g5 blk off) ⟨blk,off+f.offset,(cs.drop o).take t.size,rfl,e5,fun j v hj=>?_⟩
   rw[List.getElem?_take] at hj
   split at hj
   ·rw[List.getElem?_drop] at hj
    have:=h3 _ v hj
    rw[g3,Nat.add_assoc];exact this
   ·cases hj
  ·cases hr2
 ·rename_i b ax p hx
  rw[hx] at hv
  obtain⟨hb,hr2⟩:=aA hr
  obtain⟨bx,pR,aZ⟩:=jD hb
  split at hr2
  ·rename_i t hT
   split at hr2
   ·rename_i off u ho hu
    obtain rfl:=Option.some.inj hr2
    obtain⟨blk,cap,hl,hval⟩:=aW pR aZ hv.2
    obtain hval:a.eval x=_:=by simpa using hval
    obtain⟨fs,f,g1,g2,g3,g4,g5⟩:=yY (hc.T _ _ hT) hu ho
    refine bG h hd (by rw[hval];exact Cp g1 g2 g4 g5 blk (cz p)) ⟨⟨_,rfl,rfl⟩,bx,pR,by omega,fun _=>⟨blk,cap,hl,?_⟩⟩
    rw[wo,g3];simp[cz]
   ·cases hr2
  ·split at hr2
   ·rename_i fs hO
    split at hr2
    ·rename_i off ho
     obtain rfl:=Option.some.inj hr2
     obtain⟨blk,cap,hl,hval⟩:=aW pR aZ hv.2
     obtain hval:a.eval x=_:=by simpa using hval
     obtain⟨gs,f,i,g1,g2,g3,g4,g5⟩:=S0 (hc.nV _ _ hO) ho
     refine bG h hd (by rw[hval];exact Iy g1 g2 g4 g5 blk (cz p)) ⟨⟨_,rfl,rfl⟩,bx,pR,by omega,fun _=>⟨blk,cap,hl,?_⟩⟩
     rw[wo,g3];simp[cz]
    ·cases hr2
   ·cases hr2
 ·cases hr
theorem J6(hc:eG P cx){xt:TypeId}{k o:Nat}{u:Ty}{y:u.den}{v:aQ}{val:Value}(hu:find cx.T xt=some u)(hv:b8 γ σ.mem w (.data u y) .val [val])(hf:jV (.data u y) k=some (o,v)) :
  ∃z,(Instr.field xt val k).run P w=.ok z w∧b8 γ σ.mem w v .val [z]:=by
 have ht:=hc.T _ _ hu
 obtain⟨cs,h1,rfl⟩:=de.1 hv
 obtain⟨t',z',rfl,e2,e3,e4,e5⟩:=yW (w:=w) h1 hf
 obtain⟨fs,f,g1,g2,g3,g4,g5⟩:=yY ht e2 e3
 have XC:u.isAgg=true:=by cases u<;>first|rfl|(cases k<;>cases e2)
 refine⟨bQ t' ((cs.drop o).take t'.size),?_,⟨_,e5,rfl⟩⟩
 have hf':fs[k]?=some f:=by simpa using g2
 have hp:=xK (P:=P) (w:=w) g4 (cs:=cs.toArray) (off:=f.offset) (by rw[g3];simpa using e4) pQ
 simp only[bQ,XC,cond_true,Instr.field,Sem.run_bind,run_underlying g1,Result.andThen_ok,hf',asAgg,Sem.run_pure,hp]
 rw[g3]
theorem nj{t eB:TypeId}{sz:Nat}(ht:P.underlying t=some (.slice eB))(hs:(Go.sizeOf eB).run P w=.ok sz w)(blk off len cap:Nat)(k:IntKind){i:Int}(h0:0≤i)(h1:i<len) :
  (Instr.indexAt t (.slice (some ⟨blk,off,none⟩) len cap) (.int k i)).run P w=.ok (.pointer (some ⟨blk,off+i.toNat*sz,none⟩)) w:=by
 simp only[Instr.indexAt,asIntOf,Sem.run_bind,Sem.run_pure,Result.andThen_ok,run_underlying ht,and_self,h0,h1,if_true,hs,addr_add]
theorem vz{t eB:TypeId}{sz n:Nat}(ht:P.underlying t=some (.array n eB))(hs:(Go.sizeOf eB).run P w=.ok sz w)(blk off:Nat)(k:IntKind){i:Int}(h0:0≤i)(h1:i<n) :
  (Instr.indexAt t (.pointer (some ⟨blk,off,none⟩)) (.int k i)).run P w=.ok (.pointer (some ⟨blk,off+i.toNat*sz,none⟩)) w:=by
 simp only[Instr.indexAt,asIntOf,Sem.run_bind,Sem.run_pure,Result.andThen_ok,run_underlying ht,Instr.sureAddr,and_self,h0,h1,if_true,hs,addr_add]
theorem wu{i n:Int}(h:within i n=true):0≤i∧i<n:=by
 simp only[within,Bool.and_eq_true,decide_eq_true_eq] at h;exact h
theorem iS{i j n:Int}(h:inside i j n=true):0≤i∧i≤j∧j≤n:=by
 simp only[inside,Bool.and_eq_true,decide_eq_true_eq] at h;exact⟨h.1.1,h.1.2,h.2⟩
theorem z8{b ax:Nat}{e:Ty}{n:Int}(h:uH σ b ax=some (e,n)):∃(bx:bL) (k:Nat),σ.mem b=some bx∧bx.ax=ax∧bx.row=some (e,k)∧n=k:=by
 unfold uH at h
 split at h
 ·rename_i bx hb
  cases aZ:Nat.beq bx.ax ax with
  | false=>rw[aZ] at h;cases h
  | true =>
    rw[aZ] at h
    simp only[cond_true] at h
    split at h
    ·rename_i e' l bF hval
     obtain⟨rfl,rfl⟩:=Prod.mk.inj (Option.some.inj h)
     exact⟨bx,_,hb,Nat.eq_of_beq_eq_true aZ,by rw[bL.row,bF,hval],rfl⟩
    ·rename_i n' e' l bF hval
     obtain⟨rfl,rfl⟩:=Prod.mk.inj (Option.some.inj h)
     exact⟨bx,_,hb,Nat.eq_of_beq_eq_true aZ,by rw[bL.row,bF,hval],rfl⟩
    ·cases h
 ·cases h
theorem bL.cV{bx:bL}{e:Ty}{l:List e.den}(hb:bx.buf=true)(hv:bx.val=.data (.slice e) l):bx.row=some (e,l.length):=by rw[bL.row,hb,hv]
theorem bL.nk{bx:bL}{e:Ty}{n:Nat}{l:(Ty.arr n e).den}(hb:bx.buf=false)(hv:bx.val=.data (.arr n e) l):bx.row=some (e,n):=by rw[bL.row,hb,hv]
theorem yZ(hc:eG P cx){t e:Nat}(h:JU cx t=some e):P.underlying t=some (.slice e)∧cT cx.mU e=true:=by
 unfold JU at h
 split at h
 ·cases h
 ·split at h
  ·rename_i u hu
   cases hm:cT cx.mU u with
   | false=>rw[hm] at h;cases h
   | true =>
     rw[hm] at h
     obtain rfl:=Option.some.inj h
     exact⟨hc.els _ _ hu,hm⟩
  ·cases h
theorem Ml{b ax:Nat}{i:Int}:∀{m k:Nat},(D5 d b ax σ i m k).run=some σ'→∃j:Nat,k≤j∧j<k+m∧i=j∧σ'=σ.aR d (.ptr b ax [.qI j j]):=by
 intro m
 induction m with
 | zero=>intro k hr;cases hr
 | succ m ih =>
   intro k hr
   have hn:=eU hr
   cases hi:bp i k with
   | true =>
     rw[hi] at hn
     obtain rfl:=Option.some.inj hn
     exact⟨k,Nat.le_refl _,by omega,by simpa [bp] using hi,rfl⟩
   | false =>
     rw[hi] at hn
     obtain⟨j,h1,h2,h3,h4⟩:=ih hn
     exact⟨j,by omega,by omega,h3,h4⟩
theorem J7{q:List Ci}(h:Iq q=true):cz q=0:=by
 unfold Iq at h
 split at h
 ·simp[cz,Nat.eq_of_beq_eq_true h]
 ·cases h
theorem ye(hc:eG P cx){ty:TypeId}{x:Operand}{ki:IntKind}{i:Int}(h:cG B N γ σ a w)(hd:∀k,d=some k→k<N)(hr:(dU cx d ty (cq σ x) i σ).run=some σ') :
  mb P B N γ σ a w d (Instr.indexAt ty (a.eval x) (.int ki i)) σ':=by
 have hv:=h.cq x
 unfold dU at hr
 split at hr
 ·rename_i u e l hT hx
  rw[hx] at hv
  obtain⟨hb,hr2⟩:=aA hr
  obtain rfl:=Ty.eq_of_beq hb
  obtain⟨y,hy,iR⟩:=bR hr2
  obtain rfl:=Option.some.inj iR
  obtain⟨h0,gU⟩:=pO hy
  obtain⟨eB,k1,k2,k3,k4⟩:=(hc.T _ _ hT).slice
  obtain⟨cs,h1,hval⟩:=de.1 hv
  have hi:i.toNat<List.length (α:=u.den) l:=(List.getElem?_eq_some_iff.1 gU).1
  rcases h1 with ⟨_,h1⟩|⟨blk,off,cap,h1,h2,h3,h4⟩
  ·exfalso
   have:List.length (α:=u.den) l=0:=by rw[show l=([]:List u.den) from h1];rfl
   omega
  ·rw[h1] at hval
   have Co:a.eval x=.slice (some ⟨blk,off,none⟩) (List.length (α:=u.den) l) cap:=hval
   obtain⟨es,g1,g2,g3⟩:=h4 _ y gU
   refine bG h hd (by rw[Co];exact nj k1 (k2.sizeOf w) blk off _ cap ki h0 (by omega)) ⟨blk,off+i.toNat*u.size,es,rfl,g3,fun j v hj=>?_⟩
   exact g2 j v hj
 ·rename_i m u n e l hT hx
  rw[hx] at hv
  obtain⟨hb,hr2⟩:=aA hr
  simp only[Bool.and_eq_true] at hb
  obtain rfl:=Ty.eq_of_beq hb.1
  obtain rfl:=Nat.eq_of_beq_eq_true hb.2
  obtain⟨y,hy,iR⟩:=bR hr2
  obtain rfl:=Option.some.inj iR
  obtain⟨h0,gU⟩:=pO hy
  obtain⟨eB,k1,k2,k3⟩:=(hc.T _ _ hT).arr
  obtain⟨blk,off,cs,h1,h2,h3⟩:=hv
  obtain h1:a.eval x=_:=by simpa using h1
  have hi:i.toNat<m:=by have:=(List.getElem?_eq_some_iff.1 gU).1;have:=h2.1;omega
  have qM:=h2.2.2 _ y gU
  refine bG h hd (by rw[h1];exact vz k1 (k2.sizeOf w) blk off ki h0 (by omega)) ⟨blk,off+i.toNat*u.size,_,rfl,qM,fun j v hj=>?_⟩
  rw[List.getElem?_take] at hj
  split at hj
  ·rw[List.getElem?_drop] at hj
   have:=h3 _ v hj
   rw[Nat.add_assoc];exact this
  ·cases hj
 ·rename_i u b ax hT hx
  rw[hx] at hv
  split at hr
  ·rename_i e n he
   obtain⟨hb,hr2⟩:=aA hr
   obtain rfl:=Ty.eq_of_beq hb
   obtain⟨hw,iR⟩:=b9 hr2
   obtain rfl:=Option.some.inj iR
   obtain⟨h0,h1⟩:=wu hw
   obtain⟨bx,k,pR,aZ,hrow,rfl⟩:=z8 he
   obtain⟨eB,k1,k2,k3,k4⟩:=(hc.T _ _ hT).slice
   obtain⟨e',n',g1,g2,g3⟩:=aW pR aZ hv.2
   rw[hrow] at g2
   obtain⟨rfl,rfl⟩:=Prod.mk.inj (Option.some.inj g2)
   rcases g3 with ⟨g3,g4⟩|⟨blk,cap,g3,g4⟩
   ·exfalso
    have gz:=h.ok.boxes b bx pR
    rw[cw,g1] at gz
    obtain⟨e2,l,j1,j2,j3⟩:=gz
    rcases j3 with ⟨_,j4⟩|⟨_,_,_,_,_,j3,_⟩
    ·rw[bL.cV g1 j1,j4] at hrow
     have:0=k:=by
      have:=(Prod.mk.inj (Option.some.inj hrow)).2
      simpa using this
     omega
    ·rw[g3] at j3;cases j3
   ·obtain g4:a.eval x=_:=by simpa using g4
    refine bG h hd (by rw[g4];exact nj k1 (k2.sizeOf w) blk 0 _ cap ki h0 h1) ⟨⟨_,rfl,rfl⟩,bx,pR,by omega,fun _=>⟨blk,cap,g3,by simp[cz]⟩⟩
  ·cases hr
 ·rename_i u b ax lo n hT hx
  rw[hx] at hv
  split at hr
  ·rename_i e n2 he
   obtain⟨hb,hr2⟩:=aA hr
   obtain rfl:=Ty.eq_of_beq hb
   obtain⟨hw,iR⟩:=b9 hr2
   obtain rfl:=Option.some.inj iR
   obtain⟨h0,h1⟩:=wu hw
   obtain⟨bx,k,pR,aZ,hrow,rfl⟩:=z8 he
   obtain⟨eB,k1,k2,k3,k4⟩:=(hc.T _ _ hT).slice
   obtain⟨e',n',g2,g3,g4,g5,base,cap,g6,g7,g8,gF,g9⟩:=aW pR aZ hv.2
   rw[hrow] at g2
   obtain⟨rfl,rfl⟩:=Prod.mk.inj (Option.some.inj g2)
   rcases g9 with g9|⟨blk,c,g9,g10⟩
   ·omega
   ·obtain g6:a.eval x=_:=by simpa using g6
    refine bG h hd (by rw[g6,g10];exact nj k1 (k2.sizeOf w) blk _ _ cap ki h0 (by omega)) ⟨⟨_,rfl,rfl⟩,bx,pR,by omega,fun _=>⟨blk,c,g9,?_⟩⟩
    have:(plus lo i).toNat=lo.toNat+i.toNat:=by simp only[plus];omega
    simp only[cz,this,Nat.add_mul,Nat.add_zero]
  ·cases hr
 ·rename_i m u b ax p hT hx
  rw[hx] at hv
  obtain⟨hb,hr2⟩:=aA hr
  obtain⟨bx,pR,aZ⟩:=jD hb
  obtain⟨hw,iR⟩:=b9 hr2
  obtain rfl:=Option.some.inj iR
  obtain⟨h0,h1⟩:=wu hw
  obtain⟨eB,k1,k2,k3⟩:=(hc.T _ _ hT).arr
  obtain⟨blk,cap,hl,hval⟩:=aW pR aZ hv.2
  obtain hval:a.eval x=_:=by simpa using hval
  refine bG h hd (by rw[hval];exact vz k1 (k2.sizeOf w) blk _ ki h0 h1) ⟨⟨_,rfl,rfl⟩,bx,pR,by omega,fun _=>⟨blk,cap,hl,?_⟩⟩
  rw[wo];simp[cz]
 ·rename_i b ax q e0 k0 lo n hT hx
  rw[hx] at hv
  split at hr
  ·rename_i e he
   obtain⟨hb,hr2⟩:=aA hr
   simp only[Bool.and_eq_true,decide_eq_true_eq] at hb
   obtain⟨⟨hq,rfl⟩,hl⟩:=hb
   obtain⟨bx,pR,aZ⟩:=jD hl
   obtain⟨k1,k2⟩:=yZ hc he
   obtain⟨j,_,hj,rfl,rfl⟩:=Ml hr2
   obtain⟨_,blk,c,g1,g2,g3,g4,base,cap,g5,g6,g7⟩:=aW pR aZ hv.2
   obtain g5:a.eval x=_:=by simpa using g5
   rcases g7 with g7|g7
   ·subst g7;simp at hj
   ·rw[J7 hq] at g7
    have hj':((j:Nat):Int)<(n.toNat:Int):=by omega
    refine bG h hd (by rw[g5,g7];exact nj k1 ((hc.mU _ k2).2.1 w) blk _ _ cap ki (by omega) hj') ⟨⟨_,rfl,rfl⟩,bx,pR,by omega,fun _=>⟨blk,c,g1,?_⟩⟩
    simp[cz]
  ·cases hr
 ·cases hr
theorem u8_in(b:UInt8):IntKind.u8.min≤u8 b∧u8 b≤IntKind.u8.max:=by
 have:=b.toNat_lt
 have h1:IntKind.u8.min=0:=by decide
 have h2:IntKind.u8.max=255:=by decide
 simp only[u8,h1,h2];omega
theorem Dd(hc:eG P cx){ty:TypeId}{x:Operand}{ki:IntKind}{i:Int}(h:cG B N γ σ a w)(hd:∀k,d=some k→k<N)(hr:(jB cx d ty (cq σ x) i σ).run=some σ') :
  mb P B N γ σ a w d (Instr.index ty (a.eval x) (.int ki i)) σ':=by
 have hv:=h.cq x
 unfold jB at hr
 split at hr
 ·rename_i s hT hx
  rw[hx] at hv
  obtain⟨b,hy,iR⟩:=bR hr
  obtain rfl:=Option.some.inj iR
  obtain⟨h0,gU⟩:=pO hy
  obtain⟨hval,hl⟩:=td hv
  refine bG h hd (x:=.int .u8 (u8 b)) ?_ (mkInt (u8_in b))
  rw[hval]
  have hu:=(hc.T _ _ hT).str
  have hg:(⟨List.toArray (show List UInt8 from s)⟩:ByteArray)[i.toNat]?=some b:=by
   have:=(List.getElem?_eq_some_iff.1 gU)
   obtain⟨q1,q2⟩:=this
   have hsz:i.toNat<(⟨List.toArray (show List UInt8 from s)⟩:ByteArray).size:=q1
   rw[getElem?_pos (⟨List.toArray (show List UInt8 from s)⟩:ByteArray) i.toNat hsz]
   exact congrArg some q2
  simp only[Instr.index,asIntOf,Sem.run_bind,Sem.run_pure,Result.andThen_ok,run_underlying hu,h0,if_true,hg]
  rfl
 ·rename_i m u n e l hT hx
  rw[hx] at hv
  obtain⟨hb,hr2⟩:=aA hr
  simp only[Bool.and_eq_true] at hb
  obtain rfl:=Ty.eq_of_beq hb.1
  obtain rfl:=Nat.eq_of_beq_eq_true hb.2
  obtain⟨y,hy,iR⟩:=bR hr2
  obtain rfl:=Option.some.inj iR
  obtain⟨h0,gU⟩:=pO hy
  obtain⟨eB,k1,k2,k3⟩:=(hc.T _ _ hT).arr
  obtain⟨cs,h2,hval⟩:=de.1 hv
  have hi:i.toNat<m:=by have:=(List.getElem?_eq_some_iff.1 gU).1;have:=h2.1;omega
  have qM:=h2.2.2 _ y gU
  have hm:(i.toNat+1)*u.size≤m*u.size:=Nat.mul_le_mul_right _ hi
  rw[Nat.succ_mul] at hm
  have hcl:=h2.2.1
  have hp:=xK (P:=P) (w:=w) k2 (cs:=cs.toArray) (off:=i.toNat*u.size) (by simp;omega) pQ
  refine bG h hd (x:=bQ u ((cs.drop (i.toNat*u.size)).take u.size)) ?_ ⟨_,qM,rfl⟩
  have hi':i<(m:Int):=by omega
  rw[hval]
  show(Instr.index ty (.agg cs.toArray) (.int ki i)).run P w=_
  simp only[Instr.index,asIntOf,Sem.run_bind,Sem.run_pure,Result.andThen_ok,run_underlying k1,h0,hi',and_self,if_true,k2.sizeOf w,hp]
 ·cases hr
theorem Zv(isSlice:Bool)(len cap:Nat):(Instr.sliceBounds isSlice len cap none none none).run P w=.ok (0,len,cap) w:=by simp[Instr.sliceBounds]
theorem Zw(isSlice:Bool)(len cap:Nat)(k:IntKind){y:Int}(h0:0≤y)(h1:y≤cap):(Instr.sliceBounds isSlice len cap none (some (.int k y)) none).run P w=.ok (0,y.toNat,cap) w:=by
 have c1:(0:Int)≤y∧y≤(cap:Int):=⟨h0,h1⟩
 simp only[Instr.sliceBounds,Instr.sliceBound,asIntOf,Sem.run_bind,Sem.run_pure,Result.andThen_ok,c1,and_self,if_true]
theorem Zx(isSlice:Bool)(len cap:Nat)(k:IntKind){y:Int}(h0:0≤y)(h1:y≤len):(Instr.sliceBounds isSlice len cap (some (.int k y)) none none).run P w=.ok (y.toNat,len,cap) w:=by
 have c1:(0:Int)≤y∧y≤(len:Int):=⟨h0,h1⟩
 simp only[Instr.sliceBounds,Instr.sliceBound,asIntOf,Sem.run_bind,Sem.run_pure,Result.andThen_ok,c1,and_self,if_true]
theorem XD(isSlice:Bool)(len cap:Nat)(k k2:IntKind){y y2:Int}(h0:0≤y)(h1:y≤y2)(h2:y2≤cap):(Instr.sliceBounds isSlice len cap (some (.int k y)) (some (.int k2 y2)) none).run P w=.ok (y.toNat,y2.toNat,cap) w:=by
 have c1:(0:Int)≤y2∧y2≤(cap:Int):=⟨by omega,h2⟩
 have c2:(0:Int)≤y∧y≤((y2.toNat:Nat):Int):=⟨h0,by omega⟩
 simp only[Instr.sliceBounds,Instr.sliceBound,asIntOf,Sem.run_bind,Sem.run_pure,Result.andThen_ok,c1,and_self,if_true]
 simp only[c2,and_self,if_true,Sem.run_pure,Result.andThen_ok]
theorem mc{lo hi:Option Operand}{n:Int}{i j:Int}(h:cG B N γ σ a w)(hb:bounds σ n lo hi=some (i,j))(isSlice:Bool)(len cap:Nat)(hn:n=len)(hlc:len≤cap)(h0:0≤i)(h1:i≤j)(h2:j≤n) :
  (Instr.sliceBounds isSlice len cap (lo.map a.eval) (hi.map a.eval) none).run P w=.ok (i.toNat,j.toNat,cap) w:=by
 have S4:∀(o:Operand) k (m:Int),cq σ o=.data (.int k) m→a.eval o=.int k m:=fun o k m e=>by
  have:=h.cq o
  rw[e] at this
  exact(qd this).1
 unfold bounds at hb
 cases lo with
 | none =>
   cases hi with
   | none =>
     obtain⟨rfl,rfl⟩:=Prod.mk.inj (Option.some.inj hb)
     have:=Zv (P:=P) (w:=w) isSlice len cap
     rw[hn];simpa using this
   | some o =>
     simp only at hb
     split at hb
     ·rename_i k y hy
      obtain⟨rfl,e2⟩:=Prod.mk.inj (Option.some.inj hb)
      have e:=S4 o k _ hy
      rw[show y=j from e2] at e
      simp only[Option.map_some,Option.map_none,e]
      exact Zw isSlice len cap k h1 (by omega)
     ·cases hb
 | some o =>
   cases hi with
   | none =>
     simp only at hb
     split at hb
     ·rename_i k y hy
      obtain⟨e2,rfl⟩:=Prod.mk.inj (Option.some.inj hb)
      have e:=S4 o k _ hy
      rw[show y=i from e2] at e
      simp only[Option.map_some,Option.map_none,e]
      have:=Zx (P:=P) (w:=w) isSlice len cap k h0 (by omega)
      rw[hn];simpa using this
     ·cases hb
   | some o2 =>
     simp only at hb
     split at hb
     ·rename_i k y k2 y2 hy gU
      obtain⟨e3,e4⟩:=Prod.mk.inj (Option.some.inj hb)
      have e:=S4 o k _ hy
      have e2:=S4 o2 k2 _ gU
      rw[show y=i from e3] at e
      rw[show y2=j from e4] at e2
      simp only[Option.map_some,e,e2]
      exact XD isSlice len cap k k2 h0 h1 (by omega)
     ·cases hb
theorem J8(s:List UInt8){i j:Int}(h0:0≤i)(h1:i≤j):(⟨s.toArray⟩:ByteArray).extract i.toNat j.toNat=⟨(sub s i (minus j i)).toArray⟩:=by
 have:(minus j i).toNat=j.toNat-i.toNat:=by simp only[minus];omega
 apply ByteArray.ext
 rw[ByteArray.data_extract]
 apply Array.ext'
 simp[sub,this,List.extract_eq_take_drop]
theorem Mm{α:Type}(s:List α)(i n:Int):(sub s i n).length≤s.length:=by
 simp only[sub,List.length_take,List.length_drop];omega
theorem QD{I:Nat→Nat→Prop}{e:Ty}{l:List e.den}{blk off cap i j:Nat}(h4:∀(k:Nat) (x:e.den),l[k]?=some x→∃es:List Value,es.length=e.size ∧
   (∀(q:Nat) v,es[q]?=some v→w.cell? ⟨blk,off+k*e.size+q,none⟩=some v∧I blk (off+k*e.size+q))∧bE w I e x es) (h1:i≤j) (h2:j≤l.length) (h3:l.length≤cap) (h5:cap≤maxLen) (base:Option Addr)
  (hb:base=some ⟨blk,off+i*e.size,none⟩∨(i=cap∧base=some ⟨blk,off,none⟩)) :
  bE w I (.slice e) ((l.drop i).take (j-i)) [.slice base (j-i) (cap-i)]:=by
 have hlen:((l.drop i).take (j-i)).length=j-i:=by simp;omega
 rcases hb with rfl|⟨rfl,rfl⟩
 ·refine .inr ⟨blk,off+i*e.size,cap-i,?_,?_,by omega,fun k x hk=>?_⟩
  ·show [Value.slice _ (j-i) _]=[Value.slice _ (List.length (α:=e.den) ((l.drop i).take (j-i))) _]
   rw[hlen]
  ·show List.length (α:=e.den) ((l.drop i).take (j-i))≤_
   rw[hlen];omega
  ·have hk':((l.drop i).take (j-i))[k]?=some x:=hk
   rw[List.getElem?_take] at hk'
   split at hk'
   ·rw[List.getElem?_drop] at hk'
    obtain⟨es,g1,g2,g3⟩:=h4 _ x hk'
    refine⟨es,g1,fun q v hq=>?_,g3⟩
    have:=g2 q v hq
    rw[Nat.add_mul,←Nat.add_assoc] at this
    exact this
   ·cases hk'
 ·have hji:j=i:=by omega
  subst hji
  refine .inr ⟨blk,off,0,by simp,by simp,by omega,fun k x hk=>?_⟩
  have hk':((l.drop j).take (j-j))[k]?=some x:=hk
  simp at hk'
theorem sub_eq{α:Type}(l:List α){i j:Int}(h0:0≤i)(h1:i≤j):sub l i (minus j i)=(l.drop i.toNat).take (j.toNat-i.toNat):=by
 have:(minus j i).toNat=j.toNat-i.toNat:=by simp only[minus];omega
 rw[sub,this]
theorem sub_zero{α:Type}(l:List α):sub l 0 (minus 0 0)=[]:=by simp[sub,minus]
theorem OU{I:Nat→Nat→Prop}{e:Ty}{l:List e.den}{blk off cap:Nat}{i j:Int}(h4:∀(k:Nat) (x:e.den),l[k]?=some x→∃es:List Value,es.length=e.size ∧
   (∀(q:Nat) v,es[q]?=some v→w.cell? ⟨blk,off+k*e.size+q,none⟩=some v∧I blk (off+k*e.size+q))∧bE w I e x es) (h0:0≤i) (h1:i≤j) (h2:j≤l.length) (h3:l.length≤cap) (h5:cap≤maxLen) (base:Option Addr)
  (hb:base=some ⟨blk,off+i.toNat*e.size,none⟩∨(i.toNat=cap∧base=some ⟨blk,off,none⟩)) :
  bE w I (.slice e) (sub l i (minus j i)) [.slice base (j.toNat-i.toNat) (cap-i.toNat)]:=by
 rw[sub_eq l h0 h1]
 exact QD (w:=w) h4 (by omega) (by omega) h3 h5 base hb
theorem rL.sub{base:Option Addr}{cap:Nat}(h:rL base cap)(i s:Nat):rL (if cap=i then base else base.map (·.add s)) (cap-i):=by
 rcases h with rfl|⟨blk,off,rfl⟩
 ·exact .inl (by omega)
 ·refine .inr ?_
  split
  ·exact⟨blk,off,rfl⟩
  ·exact⟨blk,off+s,by rw[Option.map_some,addr_add]⟩
theorem zW.sub{bx:bL}{b:Nat}{lo i:Int}{base:Option Addr}{cap:Nat}(h:zW γ bx b lo base cap)(hlo:0≤lo)(h0:0≤i)(s:Nat) :
  zW γ bx b (plus lo i) (if cap=i.toNat then base else base.map (·.add (i.toNat*s))) (cap-i.toNat):=by
 intro e hb
 have e1:lo=0:=by simp only[plus] at e;omega
 have e2:i=0:=by simp only[plus] at e;omega
 subst e1;subst e2
 rcases h rfl hb with ⟨a1,rfl,rfl⟩|⟨blk,a1,rfl⟩
 ·exact .inl ⟨a1,by simp,rfl⟩
 ·refine .inr ⟨blk,by simpa using a1,?_⟩
  split
  ·rfl
  ·simp[Addr.add]
theorem De(hc:eG P cx){ty:TypeId}{x:Operand}{lo hi:Option Operand}(h:cG B N γ σ a w)(hd:∀k,d=some k→k<N)(hr:(jA cx d ty (cq σ x) lo hi σ).run=some σ') :
  mb P B N γ σ a w d (Instr.sliceAt ty (a.eval x) (lo.map a.eval) (hi.map a.eval) none) σ':=by
 have hv:=h.cq x
 unfold jA at hr
 split at hr
 ·
  rename_i s hT hx
  rw[hx] at hv
  split at hr
  ·rename_i i j hb
   obtain⟨hin,hr2⟩:=b9 hr
   obtain rfl:=Option.some.inj hr2
   obtain⟨h0,h1,h2⟩:=iS hin
   obtain⟨hval,hl⟩:=td hv
   have hu:=(hc.T _ _ hT).str
   have OV:=mc (P:=P) h hb false (List.length (α:=UInt8) s) (List.length (α:=UInt8) s) rfl (Nat.le_refl _) h0 h1 h2
   refine bG h hd (x:=.string ⟨(sub (α:=UInt8) s i (minus j i)).toArray⟩) ?_ (mkStr (Nat.le_trans (Mm (α:=UInt8) s _ _) hl))
   rw[hval]
   have hsz:(⟨List.toArray (α:=UInt8) s⟩:ByteArray).size=List.length (α:=UInt8) s:=rfl
   simp only[Instr.sliceAt,Instr.slice,Sem.run_bind,run_underlying hu,Result.andThen_ok,hsz,Option.isSome_none,Bool.false_eq_true,if_false]
   rw[OV]
   simp only[Result.andThen_ok,Sem.run_pure]
   rw[J8 (show List UInt8 from s) h0 h1]
  ·cases hr
 ·
  rename_i u e l hT hx
  rw[hx] at hv
  obtain⟨N5,jl⟩:=aA hr
  obtain rfl:=Ty.eq_of_beq N5
  split at jl
  ·rename_i i j hb
   obtain⟨hin,hr2⟩:=b9 jl
   obtain rfl:=Option.some.inj hr2
   obtain⟨h0,h1,h2⟩:=iS hin
   obtain⟨eB,k1,k2,k3,k4⟩:=(hc.T _ _ hT).slice
   obtain⟨cs,wq,hval⟩:=de.1 hv
   have QE:len (α:=u.den) l=(List.length (α:=u.den) l:Int):=rfl
   rcases wq with ⟨⟨QF,e1⟩,e2⟩|⟨blk,off,cap,e1,e2,e3,e4⟩
   ·have Co:a.eval x=.slice QF 0 0:=by rw[hval,e1];rfl
    have hl0:List.length (α:=u.den) l=0:=by rw[show l=([]:List u.den) from e2];rfl
    rw[QE,hl0] at h2
    have SK:i=0:=by omega
    have hj0:j=0:=by omega
    subst SK;subst hj0
    have OV:=mc (P:=P) h hb true 0 0 (by rw[QE,hl0]) (Nat.le_refl _) h0 h1 (by rw[QE,hl0];exact h2)
    refine bG h hd (x:=.slice QF 0 0) ?_ ⟨_,.inl ⟨⟨QF,rfl⟩,?_⟩,rfl⟩
    ·rw[Co]
     simp only[Instr.sliceAt,Instr.slice,Sem.run_bind,run_underlying k1,Result.andThen_ok,OV,k2.sizeOf w,Sem.run_pure]
     rfl
    ·exact sub_zero (α:=u.den) l
   ·have Co:a.eval x=.slice (some ⟨blk,off,none⟩) (List.length (α:=u.den) l) cap:=by rw[hval,e1];rfl
    have OV:=mc (P:=P) h hb true (List.length (α:=u.den) l) cap QE e2 h0 h1 h2
    have hj:j.toNat≤List.length (α:=u.den) l:=by rw[QE] at h2;omega
    have hmain:=OU (w:=w) (i:=i) (j:=j) e4 h0 h1 (by rw[QE] at h2;exact h2) e2 e3
    refine bG h hd (x:=.slice (if cap=i.toNat then some ⟨blk,off,none⟩ else some ⟨blk,off+i.toNat*u.size,none⟩) (j.toNat-i.toNat) (cap-i.toNat)) ?_
     ⟨_,hmain (if cap=i.toNat then some ⟨blk,off,none⟩ else some ⟨blk,off+i.toNat*u.size,none⟩) (by
      split
      ·rename_i hcap;exact .inr ⟨hcap.symm,rfl⟩
      ·exact .inl rfl),rfl⟩
    rw[Co]
    simp only[Instr.sliceAt,Instr.slice,Sem.run_bind,run_underlying k1,Result.andThen_ok,OV,k2.sizeOf w,Sem.run_pure,Option.map_some,addr_add]
  ·cases jl
 ·
  rename_i u c ax lo' n hT hx
  rw[hx] at hv
  split at hr
  ·rename_i bx pR
   obtain⟨N5,jl⟩:=aA hr
   simp only[Bool.and_eq_true] at N5
   have aZ:=Nat.eq_of_beq_eq_true N5.1
   split at jl
   ·rename_i i j hb
    obtain⟨hin,hr2⟩:=b9 jl
    obtain rfl:=Option.some.inj hr2
    obtain⟨h0,h1,h2⟩:=iS hin
    obtain⟨eB,k1,k2,k3,k4⟩:=(hc.T _ _ hT).slice
    obtain⟨e',k,g2,g3,g4,g5,base,cap,g6,g7,g8,gF,g9⟩:=aW pR aZ hv.2
    have XE:u=e':=by
     have:=N5.2
     rw[g2] at this
     exact Ty.eq_of_beq this
    subst XE
    obtain g6:a.eval x=_:=by simpa using g6
    have OV:=mc (P:=P) h hb true n.toNat cap (by omega) g7 h0 h1 h2
    refine bG h hd (x:=.slice (if cap=i.toNat then base else base.map (·.add (i.toNat*u.size))) (j.toNat-i.toNat) (cap-i.toNat)) ?_
     ⟨⟨_,rfl,rfl⟩,bx,pR,by omega,fun _=>⟨u,k,g2,by simp only[plus];omega,by simp only[minus];omega,by simp only[plus,minus];omega,(if cap=i.toNat then base else base.map (·.add (i.toNat*u.size))),cap-i.toNat,?_,?_,?_,⟨gF.1.sub _ _,gF.2.sub g3 h0 _⟩,?_⟩⟩
    ·rw[g6]
     simp only[Instr.sliceAt,Instr.slice,Sem.run_bind,run_underlying k1,Result.andThen_ok,OV,k2.sizeOf w,Sem.run_pure]
    ·have:(minus j i).toNat=j.toNat-i.toNat:=by simp only[minus];omega
     rw[this]
    ·simp only[minus];omega
    ·omega
    ·rcases g9 with g9|⟨blk,c',g9,g10⟩
     ·exact .inl (by simp only[minus];omega)
     ·by_cases hcap:cap=i.toNat
      ·exact .inl (by simp only[minus];omega)
      ·refine .inr ⟨blk,c',g9,?_⟩
       rw[if_neg hcap,g10]
       have:(plus lo' i).toNat=lo'.toNat+i.toNat:=by simp only[plus];omega
       simp only[Option.map_some,addr_add,this,Nat.add_mul]
   ·cases jl
  ·cases hr
 ·
  rename_i u c ax hT hx
  rw[hx] at hv
  split at hr
  ·rename_i bx pR
   obtain⟨N5,jl⟩:=aA hr
   simp only[Bool.and_eq_true] at N5
   have aZ:=Nat.eq_of_beq_eq_true N5.1
   split at jl
   ·rename_i e l kJ
    obtain⟨XE,hr2⟩:=aA jl
    obtain rfl:=Ty.eq_of_beq XE
    obtain⟨eB,k1,k2,k3,k4⟩:=(hc.T _ _ hT).slice
    obtain⟨e',n',g1,g2,g3⟩:=aW pR aZ hv.2
    have hrow:bx.row=some (u,List.length (α:=u.den) l):=bL.cV N5.2 kJ
    rw[hrow] at g2
    obtain⟨rfl,rfl⟩:=Prod.mk.inj (Option.some.inj g2)
    have gz:=h.ok.boxes c bx pR
    rw[cw,g1] at gz
    obtain⟨e2,l2,j1,j2,j3⟩:=gz
    have Wa:∃base cap,a.eval x=.slice base (List.length (α:=u.den) l) cap∧List.length (α:=u.den) l≤cap∧cap≤maxLen∧(((cap=0∧List.length (α:=u.den) l=0)∧γ.loc c=none∧base=none)∨∃blk,γ.loc c=some (blk,cap)∧base=some ⟨blk,0,none⟩):=by
     rw[kJ] at j1
     cases j1
     rcases g3 with ⟨g3,g4⟩|⟨blk,cap,g3,g4⟩
     ·obtain g4:a.eval x=_:=by simpa using g4
      rcases j3 with ⟨_,j4⟩|⟨_,_,_,_,_,j3,_⟩
      ·have hl0:List.length (α:=u.den) l=0:=by rw[j4];rfl
       exact⟨none,0,by rw[g4,hl0],by omega,Nat.zero_le _,.inl ⟨⟨rfl,hl0⟩,g3,rfl⟩⟩
      ·rw[g3] at j3;cases j3
     ·obtain g4:a.eval x=_:=by simpa using g4
      rcases j3 with ⟨j3,_⟩|⟨cU,cap',cur,tid,fr,q1,q2,q3,gk,q4,q5,q6,q7⟩
      ·rw[g3] at j3;cases j3
      ·rw[g3] at q1
       obtain⟨rfl,rfl⟩:=Prod.mk.inj (Option.some.inj q1)
       exact⟨_,cap,g4,q4,q5,.inr ⟨blk,g3,rfl⟩⟩
    obtain⟨base,cap,m1,m2,m3,m4⟩:=Wa
    have hF:rL base cap:=by
     rcases m4 with ⟨⟨q2,_⟩,_⟩|⟨blk,q1,q2⟩
     ·exact .inl q2
     ·exact .inr ⟨blk,0,q2⟩
    have hZ:zW γ bx c 0 base cap:=fun _ _=>by
     rcases m4 with ⟨⟨q2,_⟩,q3,q4⟩|⟨blk,q1,q2⟩
     ·exact .inl ⟨q3,q4,q2⟩
     ·exact .inr ⟨blk,q1,q2⟩
    have N6:∀{i j:Int},bounds σ (len (α:=u.den) l) lo hi=some (i,j)→0≤i→i≤j→j≤len (α:=u.den) l →
      (Instr.sliceAt ty (a.eval x) (lo.map a.eval) (hi.map a.eval) none).run P w=.ok (.slice (if cap=i.toNat then base else base.map (·.add (i.toNat*u.size))) (j.toNat-i.toNat) (cap-i.toNat)) w:=by
     intro i j hb h0 h1 h2
     have OV:=mc (P:=P) h hb true (List.length (α:=u.den) l) cap rfl m2 h0 h1 h2
     rw[m1]
     simp only[Instr.sliceAt,Instr.slice,Sem.run_bind,run_underlying k1,Result.andThen_ok,OV,k2.sizeOf w,Sem.run_pure]
    split at hr2
    ·obtain rfl:=Option.some.inj hr2
     have:=N6 (i:=0) (j:=len (α:=u.den) l) rfl (by omega) (by simp only[len];omega) (by omega)
     have hjl:(len (α:=u.den) l).toNat=List.length (α:=u.den) l:=by simp[len]
     rw[hjl] at this
     refine bG h hd (x:=a.eval x) ?_ hv
     rw[this,m1]
     congr 1
     have:(base.map (·.add ((0:Int).toNat*u.size)))=base:=by cases base<;>simp[Addr.add]
     rw[this];simp
    ·split at hr2
     ·rename_i i j hb
      obtain⟨hin,iR⟩:=b9 hr2
      obtain rfl:=Option.some.inj iR
      obtain⟨h0,h1,h2⟩:=iS hin
      have QE:len (α:=u.den) l=(List.length (α:=u.den) l:Int):=rfl
      rw[QE] at h2
      refine bG h hd (N6 hb h0 h1 h2)
       ⟨⟨_,rfl,rfl⟩,bx,pR,by omega,fun _=>⟨u,_,hrow,h0,by simp only[minus];omega,by simp only[minus];omega,(if cap=i.toNat then base else base.map (·.add (i.toNat*u.size))),cap-i.toNat,?_,?_,?_,⟨hF.sub _ _,by have:=hZ.sub (Int.le_refl 0) h0 u.size;rwa [show plus 0 i=i by simp[plus]] at this⟩,?_⟩⟩
      ·have:(minus j i).toNat=j.toNat-i.toNat:=by simp only[minus];omega
       rw[this]
      ·simp only[minus];omega
      ·omega
      ·by_cases hcap:cap=i.toNat
       ·exact .inl (by simp only[minus];omega)
       ·rcases m4 with ⟨q1,q3⟩|⟨blk,q1,q2⟩
        ·exact .inl (by simp only[minus];omega)
        ·refine .inr ⟨blk,cap,q1,?_⟩
         rw[if_neg hcap,q2]
         simp only[Option.map_some,addr_add,Nat.zero_add]
     ·cases hr2
   ·cases jl
  ·cases hr
 ·
  rename_i m u c ax s q hT hx
  rw[hx] at hv
  obtain⟨S5,jl⟩:=aA hr
  simp only[Bool.and_eq_true] at S5
  obtain⟨bx,pR,aZ⟩:=jD S5.1
  have XF:=Nat.le_of_ble_eq_true S5.2
  split at jl
  ·rename_i i j hb
   obtain⟨hin,iR⟩:=b9 jl
   obtain rfl:=Option.some.inj iR
   obtain⟨h0,h1,h2⟩:=iS hin
   obtain⟨eB,k1,k2,k3⟩:=(hc.T _ _ hT).arr
   obtain⟨blk,cap,hl,hval⟩:=aW pR aZ hv.2
   obtain hval:a.eval x=.pointer (some ⟨blk,cz (s::q),none⟩):=by simpa using hval
   have OV:=mc (P:=P) h hb false m m rfl (Nat.le_refl _) h0 h1 h2
   refine bG h hd (x:=.slice (some (if m=i.toNat then⟨blk,cz (s::q),none⟩ else(⟨blk,cz (s::q),none⟩:Addr).add (i.toNat*u.size))) (j.toNat-i.toNat) (m-i.toNat)) ?_
    ⟨⟨_,rfl,rfl⟩,bx,pR,by omega,fun _=>⟨by simp,blk,cap,hl,h0,by simp only[minus];omega,by simp only[minus];omega,some (if m=i.toNat then⟨blk,cz (s::q),none⟩ else(⟨blk,cz (s::q),none⟩:Addr).add (i.toNat*u.size)),m-i.toNat,?_,?_,?_⟩⟩
   ·rw[hval]
    simp only[Instr.sliceAt,Sem.run_bind,run_underlying k1,Result.andThen_ok,Instr.sureAddr,Sem.run_pure,OV,k2.sizeOf w]
   ·have:(minus j i).toNat=j.toNat-i.toNat:=by simp only[minus];omega
    rw[this]
   ·simp only[minus];omega
   ·by_cases hcap:m=i.toNat
    ·exact .inl (by simp only[minus];omega)
    ·refine .inr ?_
     rw[if_neg hcap]
     simp only[addr_add]
  ·cases jl
 ·
  rename_i m u c ax hT hx
  rw[hx] at hv
  split at hr
  ·rename_i bx pR
   obtain⟨N5,jl⟩:=aA hr
   simp only[Bool.and_eq_true,Bool.not_eq_true'] at N5
   have aZ:=Nat.eq_of_beq_eq_true N5.1
   split at jl
   ·rename_i n e l kJ
    obtain⟨hq,hr2⟩:=aA jl
    simp only[Bool.and_eq_true] at hq
    obtain rfl:=Nat.eq_of_beq_eq_true hq.1.1
    obtain rfl:=Ty.eq_of_beq hq.1.2
    have XF:=Nat.le_of_ble_eq_true hq.2
    split at hr2
    ·rename_i i j hb
     obtain⟨hin,iR⟩:=b9 hr2
     obtain rfl:=Option.some.inj iR
     obtain⟨h0,h1,h2⟩:=iS hin
     obtain⟨eB,k1,k2,k3⟩:=(hc.T _ _ hT).arr
     obtain⟨blk,cap,hl,hval⟩:=aW pR aZ hv.2
     obtain hval:a.eval x=.pointer (some ⟨blk,0,none⟩):=by simpa [cz] using hval
     have OV:=mc (P:=P) h hb false m m rfl (Nat.le_refl _) h0 h1 h2
     have hF:rL (some (if m=i.toNat then⟨blk,0,none⟩ else(⟨blk,0,none⟩:Addr).add (i.toNat*u.size))) (m-i.toNat):=by
      refine .inr ?_
      split
      ·exact⟨blk,0,rfl⟩
      ·exact⟨blk,0+i.toNat*u.size,by rw[addr_add]⟩
     refine bG h hd (x:=.slice (some (if m=i.toNat then⟨blk,0,none⟩ else(⟨blk,0,none⟩:Addr).add (i.toNat*u.size))) (j.toNat-i.toNat) (m-i.toNat)) ?_
      ⟨⟨_,rfl,rfl⟩,bx,pR,by omega,fun _=>⟨u,m,bL.nk N5.2 kJ,h0,by simp only[minus];omega,by simp only[minus];omega,some (if m=i.toNat then⟨blk,0,none⟩ else(⟨blk,0,none⟩:Addr).add (i.toNat*u.size)),m-i.toNat,?_,?_,?_,⟨hF,fun _ hb=>by rw[N5.2] at hb;cases hb⟩,?_⟩⟩
     ·rw[hval]
      simp only[Instr.sliceAt,Sem.run_bind,run_underlying k1,Result.andThen_ok,Instr.sureAddr,Sem.run_pure,OV,k2.sizeOf w]
     ·have:(minus j i).toNat=j.toNat-i.toNat:=by simp only[minus];omega
      rw[this]
     ·simp only[minus];omega
     ·simp only[maxLen];omega
     ·by_cases hcap:m=i.toNat
      ·exact .inl (by simp only[minus];omega)
      ·refine .inr ⟨blk,cap,hl,?_⟩
       rw[if_neg hcap]
       simp only[addr_add,Nat.zero_add]
    ·cases hr2
   ·cases jl
  ·cases hr
 ·cases hr
end
end Go.Ge
namespace Go.Ge
set_option linter.unusedVariables false
set_option linter.unusedSimpArgs false
open RowKit
section
variable {P:Program} {B:nY} {N:Nat} {γ:Gh} {σ σ':St} {a:Act} {w:World} {d:Option Nat} {cx:Ctx}
theorem bE.flat{w w':World}{I I':Nat→Nat→Prop}:∀{t:Ty} {x:t.den} {cs:List Value},t.flat=true→bE w I t x cs→bE w' I' t x cs:=by
 intro t
 induction t with
 | int k=>intro x cs _ h;exact h
 | bool=>intro x cs _ h;exact h
 | str=>intro x cs _ h;exact h
 | slice e ih=>intro x cs hf;cases hf
 | arr n e ih=>intro x cs hf h;exact⟨h.1,h.2.1,fun i y hy=>ih hf (h.2.2 i y hy)⟩
 | pair a b iQ kX =>
   intro x cs hf h
   simp only[Ty.flat,Bool.and_eq_true] at hf
   obtain⟨c1,c2,h0,h1,h2⟩:=h
   exact⟨c1,c2,h0,iQ hf.1 h1,kX hf.2 h2⟩
 | unit=>intro x cs _ h;exact h
 | alt u a r iQ ihr =>
   intro x cs hf h
   simp only[Ty.flat,Bool.and_eq_true] at hf
   rcases x with y|z
   ·obtain⟨h1,c,h2,h3⟩:=h
    exact⟨h1,c,h2,iQ hf.1 h3⟩
   ·exact ihr hf.2 (show bE w I r z cs from h)
 | vQ=>intro x cs _ h;exact h
def wz(w:World)(I:Nat→Nat→Prop)(e:Ty)(l:List e.den)(v:Value):Prop :=
 (l=[]∧∃base cap,v=.slice base 0 cap∧cap≤maxLen∧rL base cap) ∨
 ∃blk off cap,v=.slice (some ⟨blk,off,none⟩) l.length cap∧l.length≤cap∧cap≤maxLen ∧
  ∀(i:Nat) (x:e.den),l[i]?=some x→∃es:List Value,es.length=e.size ∧
   (∀(j:Nat) c,es[j]?=some c→w.cell? ⟨blk,off+i*e.size+j,none⟩=some c)∧bE w I e x es
theorem uP{I:Nat→Nat→Prop}{e:Ty}{l:List e.den}{blk:Nat}{cur:Array Value}{tid:TypeId}{fr:Nat×Nat}(hg:w.heap[blk]?=some (.cells cur tid fr)){n:Nat}(hn:n*e.size≤cur.size)
  (h:∀(i:Nat) (x:e.den),l[i]?=some x→bE w I e x ((cur.toList.drop (i*e.size)).take e.size)) (hl:l.length≤n) (lo:Nat) :
  ∀(i:Nat) (x:e.den),(l.drop lo)[i]?=some x→∃es:List Value,es.length=e.size ∧
   (∀(j:Nat) c,es[j]?=some c→w.cell? ⟨blk,lo*e.size+i*e.size+j,none⟩=some c)∧bE w I e x es:=by
 intro i x hx
 rw[List.getElem?_drop] at hx
 have hr:=h _ x hx
 have hlt:=(List.getElem?_eq_some_iff.1 hx).1
 refine⟨_,hr.length,fun j c hj=>?_,hr⟩
 rw[cell_of_heap hg]
 rw[List.getElem?_take] at hj
 split at hj
 ·rw[List.getElem?_drop] at hj
  rw[←Nat.add_mul];simpa using hj
 ·cases hj
theorem cw.row{b:Nat}{bx:bL}{mem:Nat→Option bL}(h:cw γ mem w b bx){blk cap:Nat}(hl:γ.loc b=some (blk,cap)) :
  (∀(e:Ty) (l:List e.den),bx.buf=true→bx.val=.data (.slice e) l→∃cur tid fr,w.heap[blk]?=some (.cells cur tid fr)∧l9 cur fr∧l.length≤cap∧cap≤maxLen∧cur.size=cap*e.size∧0<e.size ∧
   ∀(i:Nat) (x:e.den),l[i]?=some x→bE w γ.I e x ((cur.toList.drop (i*e.size)).take e.size)) ∧
  (∀(n:Nat) (e:Ty) (l:List e.den),bx.buf=false→bx.val=.data (.arr n e) l→∃cur tid fr,w.heap[blk]?=some (.cells cur tid fr)∧l9 cur fr∧l.length=n∧cur.size=n*e.size ∧
   ∀(i:Nat) (x:e.den),l[i]?=some x→bE w γ.I e x ((cur.toList.drop (i*e.size)).take e.size)):=by
 refine⟨fun e l hb hv=>?_,fun n e l hb hv=>?_⟩
 ·rw[cw,hb] at h
  obtain⟨e',l',h1,h2,h3⟩:=h
  rw[hv] at h1
  cases h1
  rcases h3 with ⟨h3,_⟩|⟨cU,cap',cur,tid,fr,q1,q2,q3,gk,q4,q5,q6,q7⟩
  ·rw[hl] at h3;cases h3
  ·rw[hl] at q1
   obtain⟨rfl,rfl⟩:=Prod.mk.inj (Option.some.inj q1)
   exact⟨cur,tid,fr,q2,q3.th,q4,q5,q6,h2,q7⟩
 ·rw[cw,hb] at h
  obtain⟨cU,cap',cur,tid,fr,q1,q2,q3,gk,q4⟩:=h
  rw[hl] at q1
  obtain⟨rfl,rfl⟩:=Prod.mk.inj (Option.some.inj q1)
  rw[hv] at q4
  obtain⟨r1,r2,r3⟩:=q4
  exact⟨cur,tid,fr,q2,q3,r1,by simpa using r2,r3⟩
theorem Aa{u e:Ty}{l:List u.den}{m:List e.den}(h:L9 u e l=some m):∃q:u=e,m=q▸l:=ji h
theorem jY{e:Ty}{v:aQ}{l:List e.den}(hl:eX e σ v=some l) :
  v=.data (.slice e) l∨(v=.lz∧l=[])∨(∃b ax bx,v=.whole b ax∧σ.mem b=some bx∧bx.ax=ax∧bx.buf=true∧bx.val=.data (.slice e) l) ∨
  ∃b ax lo n bx,v=.part b ax lo n∧σ.mem b=some bx∧bx.ax=ax∧((bx.buf=true∧∃l0:List e.den,bx.val=.data (.slice e) l0∧l=sub l0 lo n)∨(bx.buf=false∧∃(k:Nat) (l0:List e.den),bx.val=.data (.arr k e) l0∧l=sub l0 lo n)):=by
 unfold eX at hl
 split at hl
 ·obtain⟨q,rfl⟩:=Aa hl
  subst q;exact .inl rfl
 ·exact .inr (.inl ⟨rfl,(Option.some.inj hl).symm⟩)
 ·rename_i b ax
  split at hl
  ·rename_i bx hb
   cases hc:(Nat.beq bx.ax ax&&bx.buf) with
   | false=>rw[hc,cond_false] at hl;exact absurd hl (by simp)
   | true =>
     rw[hc,cond_true] at hl
     simp only[Bool.and_eq_true] at hc
     split at hl
     ·rename_i u l0 kJ
      obtain⟨q,rfl⟩:=Aa hl
      subst q
      exact .inr (.inr (.inl ⟨b,ax,bx,rfl,hb,Nat.eq_of_beq_eq_true hc.1,hc.2,kJ⟩))
     ·exact absurd hl (by simp)
  ·exact absurd hl (by simp)
 ·rename_i b ax lo n
  split at hl
  ·rename_i bx hb
   cases hc:Nat.beq bx.ax ax with
   | false=>rw[hc,cond_false] at hl;exact absurd hl (by simp)
   | true =>
     rw[hc,cond_true] at hl
     split at hl
     ·rename_i u l0 bF kJ
      obtain⟨q,rfl⟩:=Aa hl
      subst q
      exact .inr (.inr (.inr ⟨b,ax,lo,n,bx,rfl,hb,Nat.eq_of_beq_eq_true hc,.inl ⟨bF,l0,kJ,rfl⟩⟩))
     ·rename_i k0 u l0 bF kJ
      obtain⟨q,rfl⟩:=Aa hl
      subst q
      exact .inr (.inr (.inr ⟨b,ax,lo,n,bx,rfl,hb,Nat.eq_of_beq_eq_true hc,.inr ⟨bF,k0,l0,kJ,rfl⟩⟩))
     ·exact absurd hl (by simp)
  ·exact absurd hl (by simp)
 ·exact absurd hl (by simp)
theorem DQ{α:Type}{l:List α}{lo n:Int}(h0:0≤lo)(h1:0≤n)(h2:lo+n≤l.length):(sub l lo n).length=n.toNat:=by
 simp only[sub,List.length_take,List.length_drop];omega
theorem oE(hm:bz B γ σ.mem w){e:Ty}{v:aQ}{val:Value}{l:List e.den}(hv:b8 γ σ.mem w v .val [val])(hl:eX e σ v=some l):wz w γ.I e l val:=by
 rcases jY hl with rfl|⟨rfl,rfl⟩|⟨b,ax,bx,rfl,hb,aZ,bF,kJ⟩|⟨b,ax,lo,n,bx,rfl,hb,aZ,Gg⟩
 ·obtain⟨cs,h1,hval⟩:=de.1 hv
  rcases h1 with ⟨⟨base,h1⟩,h2⟩|⟨blk,off,cap,h1,h2,h3,h4⟩
  ·exact .inl ⟨h2,base,0,by rw[hval,h1];rfl,Nat.zero_le _,.inl rfl⟩
  ·refine .inr ⟨blk,off,cap,by rw[hval,h1];rfl,h2,h3,fun i x hx=>?_⟩
   obtain⟨es,g1,g2,g3⟩:=h4 i x hx
   exact⟨es,g1,fun j c hj=>(g2 j c hj).1,g3⟩
 ·obtain rfl:val=_:=by simpa [b8] using hv
  exact .inl ⟨rfl,none,0,rfl,Nat.zero_le _,.inl rfl⟩
 ·obtain⟨e',n',g1,g2,g3⟩:=aW hb aZ hv.2
  rw[bL.cV g1 kJ] at g2
  obtain⟨rfl,rfl⟩:=Prod.mk.inj (Option.some.inj g2)
  rcases g3 with ⟨g3,g4⟩|⟨blk,cap,g3,g4⟩
  ·obtain rfl:val=_:=by simpa using g4
   have gz:=hm.boxes b bx hb
   rw[cw,g1] at gz
   obtain⟨e2,l2,j1,j2,j3⟩:=gz
   rw[kJ] at j1
   cases j1
   rcases j3 with ⟨_,j4⟩|⟨_,_,_,_,_,j3,_⟩
   ·exact .inl ⟨j4,none,0,rfl,Nat.zero_le _,.inl rfl⟩
   ·rw[g3] at j3;exact absurd j3 (by simp)
  ·obtain rfl:val=_:=by simpa using g4
   obtain⟨cur,tid,fr,q1,q2,q3,q4,q5,q6,q7⟩:=((hm.boxes b bx hb).row g3).1 _ l g1 kJ
   refine .inr ⟨blk,0,cap,rfl,q3,q4,fun i x hx=>?_⟩
   have:=uP q1 (n:=cap) (by omega) q7 q3 0 i x hx
   rw[Nat.zero_mul] at this;exact this
 ·obtain⟨e',k,g2,g3,g4,g5,base,cap,g6,g7,g8,gF,g9⟩:=aW hb aZ hv.2
  obtain rfl:val=_:=by simpa using g6
  rcases Gg with ⟨bF,l0,kJ,rfl⟩|⟨bF,k0,l0,kJ,rfl⟩
  ·rw[bL.cV bF kJ] at g2
   obtain⟨rfl,rfl⟩:=Prod.mk.inj (Option.some.inj g2)
   have hlen:=DQ g3 g4 g5
   rcases g9 with g9|⟨blk,c,g9,g10⟩
   ·subst g9
    exact .inl ⟨by simp[sub],base,cap,rfl,g8,gF.1⟩
   ·obtain⟨cur,tid,fr,q1,q2,q3,q4,q5,q6,q7⟩:=((hm.boxes b bx hb).row g9).1 _ l0 bF kJ
    refine .inr ⟨blk,lo.toNat*e.size,cap,by rw[g10,hlen],by rw[hlen];exact g7,g8,fun i x hx=>?_⟩
    have hx':((List.drop lo.toNat l0).take n.toNat)[i]?=some x:=hx
    rw[List.getElem?_take] at hx'
    split at hx'
    ·exact uP q1 (n:=c) (by omega) q7 q3 lo.toNat i x hx'
    ·exact absurd hx' (by simp)
  ·rw[bL.nk bF kJ] at g2
   obtain⟨rfl,rfl⟩:=Prod.mk.inj (Option.some.inj g2)
   rcases g9 with g9|⟨blk,c,g9,g10⟩
   ·subst g9
    exact .inl ⟨by simp[sub],base,cap,rfl,g8,gF.1⟩
   ·obtain⟨cur,tid,fr,q1,q2,q3,q5,q7⟩:=((hm.boxes b bx hb).row g9).2 _ _ l0 bF kJ
    have hlen:=DQ (l:=l0) g3 g4 (by rw[q3];exact g5)
    refine .inr ⟨blk,lo.toNat*e.size,cap,by rw[g10,hlen],by rw[hlen];exact g7,g8,fun i x hx=>?_⟩
    have hx':((List.drop lo.toNat l0).take n.toNat)[i]?=some x:=hx
    rw[List.getElem?_take] at hx'
    split at hx'
    ·exact uP q1 (n:=k0) (by omega) q7 (by omega) lo.toNat i x hx'
    ·exact absurd hx' (by simp)
theorem za{I:Nat→Nat→Prop}{e:Ty}{blk:Nat}:∀{l:List e.den} {off:Nat},(∀(i:Nat) (x:e.den),l[i]?=some x→∃es:List Value,es.length=e.size ∧
   (∀(j:Nat) c,es[j]?=some c→w.cell? ⟨blk,off+i*e.size+j,none⟩=some c)∧bE w I e x es) →
  ∃news:List Value,news.length=l.length*e.size∧(∀(j:Nat) c,news[j]?=some c→w.cell? ⟨blk,off+j,none⟩=some c)∧(∀c∈news,c.oneCell'=true) ∧
   ∀(i:Nat) (x:e.den),l[i]?=some x→bE w I e x ((news.drop (i*e.size)).take e.size):=by
 intro l
 induction l with
 | nil=>intro off h;exact⟨[],by simp,by simp,by simp,by simp⟩
 | cons x0 r ih =>
   intro off h
   obtain⟨es,g1,g2,g3⟩:=h 0 x0 rfl
   obtain⟨news,k1,k2,k3,k4⟩:=ih (off:=off+e.size) fun i x hx=>by
    obtain⟨es',a1,a2,a3⟩:=h (i+1) x (by simpa using hx)
    refine⟨es',a1,fun j c hj=>?_,a3⟩
    have:=a2 j c hj
    rw[Nat.succ_mul] at this
    rw[←this];congr 2;omega
   refine⟨es++news,by rw[List.length_append,g1,k1,List.length_cons,Nat.succ_mul];omega,fun j c hj=>?_,fun c hc=>?_,fun i x hx=>?_⟩
   ·rw[List.getElem?_append] at hj
    split at hj
    ·have:=g2 j c hj
     simpa using this
    ·rename_i hlt
     have:=k2 _ c hj
     rw[←this];congr 2;omega
   ·rcases List.mem_append.1 hc with hc|hc
    ·exact g3.one c hc
    ·exact k3 c hc
   ·cases i with
    | zero =>
      obtain rfl:x0=x:=by simpa using hx
      rw[Nat.zero_mul,List.drop_zero,←g1,List.take_left];exact g3
    | succ i =>
      have hx':r[i]?=some x:=by simpa using hx
      rw[Nat.succ_mul,Nat.add_comm,←List.drop_drop,←g1,List.drop_left,g1]
      exact k4 i x hx'
theorem Ab(h:cG B N γ σ a w){b:Nat}{bx:bL}{e:Ty}{n:Nat}(hb:σ.mem b=some bx)(hrow:bx.row=some (e,n))(hf:freeze σ b=some σ') :
  ∃γ',cG B N γ' σ' a w∧Ext B γ σ.mem w γ' σ'.mem w∧γ'.loc=γ.loc∧∀blk k off,γ.loc b=some (blk,k)→off<n*e.size→γ'.I blk off:=by
 obtain⟨m1,m2⟩:=h.ok.freeze hb hrow
 have e1:σ'={ slots:=σ.slots,mem:=cc σ.mem b { bx with ro:=true } }:=by
  unfold freeze at hf
  rw[hb] at hf
  cases hro:bx.ro with
  | true =>
    simp only[hro,cond_true,Option.some.injEq] at hf
    subst hf
    have:cc σ.mem b { bx with ro:=true }=σ.mem:=by
     funext c
     by_cases e:c=b
     ·subst e;rw[bt,hb];congr 1;cases bx;simp only at hro;subst hro;rfl
     ·rw[aM _ e]
    rw[this]
  | false =>
    simp only[hro,cond_false] at hf
    cases hlk:bx.lk with
    | true=>simp[hlk] at hf
    | false=>simp only[hlk,cond_false,Option.some.injEq] at hf;subst hf;rfl
 subst e1
 exact⟨_,h.go m2 m1,m2,rfl,fun blk k off hl ho=>.inr ⟨⟨k,hl⟩,ho⟩⟩
theorem wz.data{γ':Gh}{e:Ty}{l:List e.den}{val:Value}(h:wz w γ.I e l val)(hI:∀b o,γ.I b o→γ'.I b o)
  (hc:∀blk off cap,val=.slice (some ⟨blk,off,none⟩) l.length cap→∀j,j<l.length*e.size→γ'.I blk (off+j)):bE w γ'.I (.slice e) l [val]:=by
 rcases h with ⟨rfl,base,cap,r1,r2,r3⟩|⟨blk,off,cap,r1,r2,r3,r4⟩
 ·rcases r3 with rfl|⟨blk,off,rfl⟩
  ·exact .inl ⟨⟨base,by rw[r1]⟩,rfl⟩
  ·exact .inr ⟨blk,off,cap,by rw[r1];rfl,Nat.zero_le _,r2,fun i x hx=>by cases hx⟩
 ·refine .inr ⟨blk,off,cap,by rw[r1],r2,r3,fun i x hx=>?_⟩
  obtain⟨es,g1,g2,g3⟩:=r4 i x hx
  have hi:i<l.length:=(List.getElem?_eq_some_iff.1 hx).1
  refine⟨es,g1,fun j c hj=>⟨g2 j c hj,?_⟩,bE.mono hI (fun _ _ _=>rfl) g3⟩
  have hj':j<e.size:=by have:=(List.getElem?_eq_some_iff.1 hj).1;omega
  have:(i+1)*e.size≤l.length*e.size:=Nat.mul_le_mul_right _ hi
  rw[Nat.succ_mul] at this
  rw[Nat.add_assoc]
  exact hc blk off cap r1 _ (by omega)
theorem Ac(h:cG B N γ σ a w){e:Ty}{v:aQ}{val:Value}{l:List e.den}(hv:b8 γ σ.mem w v .val [val])(hl:eX e σ v=some l)(hf:fu σ v=some σ') :
  ∃γ',cG B N γ' σ' a w∧Ext B γ σ.mem w γ' σ'.mem w∧bE w γ'.I (.slice e) l [val]:=by
 have hrow:=oE h.ok hv hl
 rcases jY hl with rfl|⟨rfl,rfl⟩|⟨b,ax,bx,rfl,hb,aZ,bF,kJ⟩|⟨b,ax,lo,n,bx,rfl,hb,aZ,Gg⟩
 ·obtain rfl:=Option.some.inj hf
  obtain⟨cs,h1,hval⟩:=de.1 hv
  have:cs=[val]:=by
   obtain⟨c,rfl⟩:=List.length_eq_one_iff.1 h1.length
   rw[hval];rfl
  exact⟨γ,h,Ext.refl _ _ _ _,by rw[←this];exact h1⟩
 ·obtain rfl:=Option.some.inj hf
  obtain rfl:val=_:=by simpa [b8] using hv
  exact⟨γ,h,Ext.refl _ _ _ _,.inl ⟨⟨none,rfl⟩,rfl⟩⟩
 ·obtain⟨γ',s1,s2,s3,s4⟩:=Ab h hb (bL.cV bF kJ) hf
  refine⟨γ',s1,s2,hrow.data s2.I fun blk off cap hval j hj=>?_⟩
  obtain⟨e',n',g1,g2,g3⟩:=aW hb aZ hv.2
  rcases g3 with ⟨g3,g4⟩|⟨cU,cap',g3,g4⟩
  ·obtain rfl:val=_:=by simpa using g4
   injection hval with q1 q2 q3
   rw[←q2,Nat.zero_mul] at hj
   omega
  ·obtain rfl:val=_:=by simpa using g4
   injection hval with q1 q2 q3
   injection q1 with q1
   injection q1 with q1 q4
   subst q1;subst q4
   rw[Nat.zero_add];exact s4 cU cap' j g3 hj
 ·obtain⟨e',k,g2,g3,g4,g5,base,cap,g6,g7,g8,gF,g9⟩:=aW hb aZ hv.2
  obtain rfl:val=_:=by simpa using g6
  have hlk:e=e'∧l.length=n.toNat:=by
   rcases Gg with ⟨bF,l0,kJ,rfl⟩|⟨bF,k0,l0,kJ,rfl⟩
   ·rw[bL.cV bF kJ] at g2
    obtain⟨rfl,rfl⟩:=Prod.mk.inj (Option.some.inj g2)
    exact⟨rfl,DQ g3 g4 g5⟩
   ·rw[bL.nk bF kJ] at g2
    obtain⟨rfl,rfl⟩:=Prod.mk.inj (Option.some.inj g2)
    rcases g9 with g9|⟨blk,c,g9,g10⟩
    ·subst g9;exact⟨rfl,by simp[sub]⟩
    ·obtain⟨cur,tid,fr,q1,q2,q3,q5,q7⟩:=((h.ok.boxes b bx hb).row g9).2 _ _ l0 bF kJ
     exact⟨rfl,DQ g3 g4 (by rw[q3];exact g5)⟩
  obtain⟨rfl,hlen⟩:=hlk
  obtain⟨γ',s1,s2,s3,s4⟩:=Ab h hb g2 hf
  refine⟨γ',s1,s2,hrow.data s2.I fun blk off cap' hval j hj=>?_⟩
  rcases g9 with g9|⟨cU,c,g9,g10⟩
  ·rw[hlen,g9] at hj;simp at hj
  ·injection hval with q1 q2 q3
   rw[g10] at q1
   injection q1 with q1
   injection q1 with q1 q4
   subst q1;subst q4
   refine s4 cU c _ g9 ?_
   have:(lo.toNat+n.toNat)*e.size≤k*e.size:=Nat.mul_le_mul_right _ (by omega)
   rw[Nat.add_mul] at this
   rw[hlen] at hj
   omega
theorem yq{e:Ty}{v:aQ}{l:List e.den}{b:Nat}(h:eX e σ v=some l)(hf:freeze σ b=some σ'):eX e σ' v=some l:=by
 have hm:∀c bx,σ.mem c=some bx→∃r,σ'.mem c=some { bx with ro:=r }:=by
  intro c bx hc
  unfold freeze at hf
  split at hf
  ·rename_i cK hb0
   cases hro:cK.ro with
   | true=>simp only[hro,cond_true,Option.some.injEq] at hf;subst hf;exact⟨bx.ro,hc⟩
   | false =>
     cases hlk:cK.lk with
     | true=>simp[hro,hlk] at hf
     | false =>
       simp only[hro,hlk,cond_false,Option.some.injEq] at hf
       subst hf
       by_cases e:c=b
       ·subst e
        rw[hb0] at hc
        obtain rfl:=Option.some.inj hc
        exact⟨true,by simp[St.bX,hlk]⟩
       ·exact⟨bx.ro,by simp[St.bX,fQ e,hc]⟩
  ·cases hf
 rcases jY h with rfl|⟨rfl,rfl⟩|⟨c,ax,bx,rfl,hb,aZ,bF,kJ⟩|⟨c,ax,lo,n,bx,rfl,hb,aZ,Gg⟩
 ·exact h
 ·rfl
 ·obtain⟨r,hr⟩:=hm c bx hb
  simp only[eX,hr,aZ,bF,kJ,Nat.beq_refl,Bool.and_self,cond_true]
  simp[L9,Ty.beq_refl]
 ·obtain⟨r,hr⟩:=hm c bx hb
  rcases Gg with ⟨bF,l0,kJ,rfl⟩|⟨bF,k0,l0,kJ,rfl⟩
  ·simp only[eX,hr,aZ,bF,kJ,Nat.beq_refl,cond_true]
   simp[L9,Ty.beq_refl]
  ·simp only[eX,hr,aZ,bF,kJ,Nat.beq_refl,cond_true]
   simp[L9,Ty.beq_refl]
theorem Ad{s r:Ty}{p q:aQ}{x:(Ty.pair s r).den}(h:nW σ (.pair s r) (.mix p q)=some x):∃(y:s.den) (z:r.den),nW σ s p=some y∧nW σ r q=some z∧x=(y,z):=by
 replace h:(match nW σ s p,nW σ r q with
  | some x,some y=>some ((x,y):(Ty.pair s r).den)
  | _,_=>none)=some x:=h
 split at h
 ·rename_i y z h1 h2
  exact⟨y,z,h1,h2,(Option.some.inj h).symm⟩
 ·exact absurd h (by simp)
theorem Hu{s r:Ty}{p q:aQ}{y:s.den}{z:r.den}(h1:nW σ s p=some y)(h2:nW σ r q=some z):nW σ (.pair s r) (.mix p q)=some ((y,z):(Ty.pair s r).den):=by
 show(match nW σ s p,nW σ r q with
  | some x,some y=>some ((x,y):(Ty.pair s r).den)
  | _,_=>none)=some (y,z)
 rw[h1,h2]
theorem sH{p q:aQ}(h:fu σ (.mix p q)=some σ'):∃σ1,fu σ p=some σ1∧fu σ1 q=some σ':=by
 unfold fu at h
 split at h
 ·rename_i σ1 h1;exact⟨σ1,h1,h⟩
 ·exact absurd h (by simp)
theorem mB{t:Ty}:∀{x:t.den},nW σ t .pN=some x→(∀w I,bE w I t x [.nilIface])∧(∀τ:St,nW τ t .pN=some x)∧bQ t [.nilIface]=.nilIface∧t.isAgg=false:=by
 induction t with
 | alt u a r iQ ihr =>
   intro x h
   have h:(match nW σ r .pN with|some x=>some (Sum.inr x)|none=>none:Option (a.den⊕r.den))=some x:=h
   cases hr:nW σ r .pN with
   | none=>rw[hr] at h;cases h
   | some y =>
     rw[hr] at h
     obtain rfl:=Option.some.inj h
     obtain⟨h1,h2,h3,h4⟩:=ihr hr
     refine⟨fun w I=>h1 w I,fun τ=>?_,h3,h4⟩
     show(match nW τ r .pN with|some x=>some (Sum.inr x)|none=>none:Option (a.den⊕r.den))=_
     rw[h2 τ];rfl
 | vQ=>intro x h;obtain rfl:()=x:=Option.some.inj h;exact⟨fun w I=>rfl,fun τ=>rfl,rfl,rfl⟩
 | slice e=>intro x h;cases h
 | pair a b=>intro x h;cases h
 | _=>intro x h;cases h
theorem J9:∀{v:aQ} {t:Ty} {x:t.den} {σ σ':St} {u:aQ},nW σ t v=some x→fu σ u=some σ'→nW σ' t v=some x:=by
 have one:∀{u:aQ} {e:Ty} {v:aQ} {l:List e.den} {σ σ':St},eX e σ v=some l→fu σ u=some σ'→eX e σ' v=some l:=by
  intro u
  induction u with
  | mix p q Mn Ka =>
    intro e v l σ σ' h hf
    simp only[fu] at hf
    cases hp:fu σ p with
    | none=>rw[hp] at hf;cases hf
    | some σ1=>rw[hp] at hf;exact Ka (Mn h hp) hf
  | whole b ax=>intro e v l σ σ' h hf;exact yq h hf
  | part b ax lo n=>intro e v l σ σ' h hf;exact yq h hf
  | _=>intro e v l σ σ' h hf;obtain rfl:=Option.some.inj hf;exact h
 intro v
 induction v with
 | data u y =>
   intro t x σ σ' u h hf
   cases t with
   | slice e=>exact one h hf
   | _=>exact h
 | mix p q Mn Ka =>
   intro t x σ σ' u h hf
   cases t with
   | pair s r =>
     obtain⟨y,z,h1,h2,rfl⟩:=Ad h
     exact Hu (Mn h1 hf) (Ka h2 hf)
   | slice e=>exact one h hf
   | _=>cases h
 | pN=>intro t x σ σ' u h hf;exact(mB h).2.1 _
 | _ =>
   intro t x σ σ' u h hf
   cases t with
   | slice e=>exact one h hf
   | _=>cases h
theorem Cq{γ:Gh}{mem:Nat→Option bL}{v:aQ}{cs:List Value}(h:b8 γ mem w v .cells cs)(h1:dY v=1):∃c,cs=[c]:=by
 have:=h.length
 rw[h1] at this
 exact List.length_eq_one_iff.1 this
theorem Mo:∀{v:aQ} {t:Ty} {x:t.den} {cs:List Value} {σ σ':St} {γ:Gh} {a:Act},cG B N γ σ a w→b8 γ σ.mem w v .cells cs→nW σ t v=some x→fu σ v=some σ' →
  ∃γ',cG B N γ' σ' a w∧Ext B γ σ.mem w γ' σ'.mem w∧bE w γ'.I t x cs:=by
 have sl:∀{v:aQ} {e:Ty} {l:List e.den} {cs:List Value} {σ σ':St} {γ:Gh} {a:Act},dY v=1→(∀c,b8 γ σ.mem w v .cells [c]→b8 γ σ.mem w v .val [c])→cG B N γ σ a w→b8 γ σ.mem w v .cells cs→eX e σ v=some l→fu σ v=some σ' →
   ∃γ',cG B N γ' σ' a w∧Ext B γ σ.mem w γ' σ'.mem w∧bE w γ'.I (.slice e) l cs:=by
  intro v e l cs σ σ' γ a h1 hval h hc hl hf
  obtain⟨c,rfl⟩:=Cq hc h1
  exact Ac h (hval c hc) hl hf
 intro v
 induction v with
 | data u y =>
   intro t x cs σ σ' γ a h hc hl hf
   obtain rfl:=Option.some.inj hf
   have key:(∃q:u=t,x=q▸y):=by
    cases t with
    | slice e =>
      rcases jY (show eX e σ (.data u y)=some x from hl) with g|⟨g,_⟩|⟨_,_,_,g,_⟩|⟨_,_,_,_,_,g,_⟩
      ·injection g with g1 g2;subst g1;exact⟨rfl,(eq_of_heq g2).symm⟩
      ·cases g
      ·cases g
      ·cases g
    | _=>exact Ty.iY hl
   obtain⟨q,hq⟩:=key
   subst q;subst hq
   exact⟨γ,h,Ext.refl _ _ _ _,hc⟩
 | mix p q Mn Ka =>
   intro t x cs σ σ' γ a h hc hl hf
   cases t with
   | pair s r =>
     obtain⟨c1,c2,rfl,h1,h2⟩:=hc
     obtain⟨y,z,hp,hq,rfl⟩:=Ad hl
     obtain⟨σ1,Qf,XG⟩:=sH hf
     obtain⟨ij,s1,s2,s3⟩:=Mn h h1 hp Qf
     obtain⟨BD,t1,t2,t3⟩:=Ka s1 (h2.ext s2) (J9 hq Qf) XG
     exact⟨BD,t1,s2.trans t2,c1,c2,rfl,bE.mono t2.I t2.cells s3,t3⟩
   | slice e=>exact absurd hl (by intro k;cases k)
   | _=>cases hl
 | lz =>
   intro t x cs σ σ' γ a h hc hl hf
   cases t with
   | slice e=>exact sl (v:=.lz) rfl (fun c k=>k) h hc hl hf
   | _=>cases hl
 | whole b ax =>
   intro t x cs σ σ' γ a h hc hl hf
   cases t with
   | slice e=>exact sl (v:=.whole b ax) rfl (fun c k=>k) h hc hl hf
   | _=>cases hl
 | part b ax lo n =>
   intro t x cs σ σ' γ a h hc hl hf
   cases t with
   | slice e=>exact sl (v:=.part b ax lo n) rfl (fun c k=>k) h hc hl hf
   | _=>cases hl
 | pN =>
   intro t x cs σ σ' γ a h hc hl hf
   obtain rfl:=Option.some.inj hf
   obtain rfl:cs=[.nilIface]:=hc
   exact⟨γ,h,Ext.refl ..,(mB hl).1 _ _⟩
 | _ =>
   intro t x cs σ σ' γ a h hc hl hf
   cases t with
   | slice e=>exact absurd hl (by intro k;cases k)
   | _=>cases hl
theorem jZ{t:Ty}{x:t.den}{v:aQ}{val:Value}(h:cG B N γ σ a w)(hv:b8 γ σ.mem w v .val [val])(hg:vZ σ t v=some (x,σ')) :
  ∃γ',cG B N γ' σ' a w∧Ext B γ σ.mem w γ' σ'.mem w∧b8 γ' σ'.mem w (.data t x) .val [val]:=by
 unfold vZ at hg
 split at hg
 ·rename_i u y
  split at hg
  ·rename_i y2 hy
   obtain⟨rfl,rfl⟩:=Prod.mk.inj (Option.some.inj hg)
   obtain⟨q,hq⟩:=Ty.iY hy
   subst q;subst hq
   exact⟨γ,h,Ext.refl _ _ _ _,hv⟩
  ·cases hg
 ·split at hg
  ·rename_i y σ1 hl hf
   obtain⟨rfl,rfl⟩:=Prod.mk.inj (Option.some.inj hg)
   cases v with
   | data u y'=>rename_i hne;exact absurd rfl (hne u y')
   | mix p q =>
     obtain⟨c1,c2,e1,h1,h2⟩:=hv
     obtain rfl:val=_:=by simpa using e1
     obtain⟨γ',s1,s2,s3⟩:=Mo h (show b8 γ σ.mem w (.mix p q) .cells (c1++c2) from⟨c1,c2,rfl,h1,h2⟩) hl hf
     refine⟨γ',s1,s2,_,s3,?_⟩
     cases t with
     | pair s r=>rfl
     | slice e=>exact absurd hl (by intro k;cases k)
     | _=>cases hl
   | lz =>
     cases t with
     | slice e=>obtain⟨γ',s1,s2,s3⟩:=Ac h hv hl hf;exact⟨γ',s1,s2,_,s3,rfl⟩
     | _=>cases hl
   | whole b ax =>
     cases t with
     | slice e=>obtain⟨γ',s1,s2,s3⟩:=Ac h hv hl hf;exact⟨γ',s1,s2,_,s3,rfl⟩
     | _=>cases hl
   | part b ax lo n =>
     cases t with
     | slice e=>obtain⟨γ',s1,s2,s3⟩:=Ac h hv hl hf;exact⟨γ',s1,s2,_,s3,rfl⟩
     | _=>cases hl
   | pN =>
     obtain rfl:=Option.some.inj hf
     obtain hv:[val]=[Value.nilIface]:=hv
     obtain rfl:val=.nilIface:=by simpa using hv
     exact⟨γ,h,Ext.refl ..,[.nilIface],(mB hl).1 _ _,by rw[(mB hl).2.2.1]⟩
   | _ =>
     cases t with
     | slice e=>exact absurd hl (by intro k;cases k)
     | _=>cases hl
  ·cases hg
end
end Go.Ge
namespace Go.Ge
set_option linter.unusedVariables false
set_option linter.unusedSimpArgs false
open RowKit
section
variable {P:Program} {B:nY} {N:Nat} {γ:Gh} {σ σ':St} {a:Act} {w:World} {d:Option Nat} {cx:Ctx}
theorem Mp{bx:bL}{k:Nat}{c v:aQ}{f:aQ→Tree aQ}(hb:bx.buf=false)(hv:bx.val=v)(h:(Bp v k f).run=some c):({ bx with val:=c }:bL).row=bx.row:=by
 obtain⟨val,tid,buf,ro,lk,ax⟩:=bx
 subst hb;subst hv
 cases val with
 | data t x =>
   obtain⟨y,h1,h2⟩:=bind_some (show((DG t x k f).bind fun y=>.ret (.data t y)).run=some c from h)
   obtain rfl:=Option.some.inj h2
   cases t with
   | arr n e=>cases k<;>exact absurd h1 (by intro k;cases k)
   | _=>rfl
 | mix p q =>
   cases k with
   | zero =>
     obtain⟨y,h1,h2⟩:=bind_some (show((f p).bind fun v=>.ret (.mix v q)).run=some c from h)
     obtain rfl:=Option.some.inj h2
     rfl
   | succ k =>
     obtain⟨y,h1,h2⟩:=bind_some (show((Bp q k f).bind fun v=>.ret (.mix p v)).run=some c from h)
     obtain rfl:=Option.some.inj h2
     rfl
 | _=>exact absurd h (by intro k;cases k)
theorem S6{bx:bL}{e:Ty}{l:List e.den}{i:Int}{y:e.den}(hb:bx.buf=true)(hv:bx.val=.data (.slice e) l):({ bx with val:=.data (.slice e) (rF l i y) }:bL).row=bx.row:=by
 rw[bL.cV hb hv,bL.cV (bx:={ bx with val:=.data (.slice e) (rF l i y) }) (l:=rF l i y) hb rfl]
 simp[rF]
theorem Cr{bx:bL}{p:List Ci}{v c:aQ}(h:(DH bx.buf p bx.val v).run=some c)(h0:p=[]→bx.buf=false→({ bx with val:=v }:bL).row=bx.row) :
  ({ bx with val:=c }:bL).row=bx.row:=by
 unfold DH at h
 split at h
 ·rename_i bF
  cases p with
  | nil=>obtain rfl:=Option.some.inj h;exact h0 rfl bF
  | cons s p =>
    cases s with
    | qI k off=>exact Mp bF rfl h
    | idx i size =>
      simp only[uG] at h
      split at h
      ·rename_i n e l hv
       obtain⟨x,hx,h2⟩:=bR h
       obtain⟨z,hz,h3⟩:=bind_some h2
       split at h3
       ·obtain rfl:=Option.some.inj h3
        rw[bL.nk bF hv]
        exact bL.nk (bx:={ bx with val:=_ }) bF rfl
       ·exact absurd h3 (by intro k;cases k)
      ·exact absurd h (by intro k;cases k)
 ·rename_i bF
  split at h
  ·rename_i i size p e l hv
   obtain⟨x,hx,h2⟩:=bR h
   obtain⟨z,hz,h3⟩:=bind_some h2
   split at h3
   ·obtain rfl:=Option.some.inj h3
    exact S6 bF hv
   ·exact absurd h3 (by intro k;cases k)
  ·exact absurd h (by intro k;cases k)
theorem yu(h:cG B N γ σ a w){b ax:Nat}{p:List Ci}{fit:aQ→Bool}{u:aQ}{es:List Value}(hr:(storeAt b ax p fit u σ).run=some σ')(hu:b8 γ σ.mem w u .cells es)
  (hlen:∀old,fit old=true→es.length=dY old) (hrow:∀bx:bL,fit bx.val=true→bx.buf=false→({ bx with val:=u }:bL).row=bx.row)
  {blk cap:Nat} (hl:γ.loc b=some (blk,cap)) :
  ∃w',(storeCells ⟨blk,cz p,none⟩ es).run P w=.ok () w'∧cG B N γ σ' a w'∧Ext B γ σ.mem w γ σ'.mem w':=by
 unfold storeAt at hr
 split at hr
 case h_2=>exact absurd hr (by intro k;cases k)
 rename_i bx hb
 obtain⟨hc,hr2⟩:=aA hr
 simp only[Bool.and_eq_true,Bool.not_eq_true'] at hc
 obtain⟨⟨aZ,hlk⟩,hro⟩:=hc
 obtain⟨old,hn,iR⟩:=bind_some hr2
 obtain⟨hfit,qM⟩:=aA iR
 obtain⟨c,hs,Mq⟩:=bind_some qM
 obtain rfl:=Option.some.inj Mq
 have hel:=hlen old hfit
 have hrw:({ bx with val:=c }:bL).row=bx.row:=Cr hs fun hp bF=>by
  subst hp
  rw[bF] at hn
  obtain rfl:=Option.some.inj hn
  exact hrow bx hfit bF
 have gz:=h.ok.boxes b bx hb
 unfold cw at gz
 unfold OO at hn
 unfold DH at hs
 have Zy:bx.buf=false∨bx.buf=true:=by cases bx.buf<;>simp
 rcases Zy with bF|bF
 ·rw[bF] at gz hn hs
  obtain⟨cU,cap',cur,tid,fr,h1,h2,h3,gk,h4⟩:=gz
  rw[hl] at h1
  obtain⟨rfl,rfl⟩:=Prod.mk.inj (Option.some.inj h1)
  obtain⟨k1,k2⟩:=uN h4 hn
  have S7:cz p+es.length≤cur.toList.length:=by rw[hel];exact k1
  have hst:=dD (P:=P) blk (cz p) tid fr es 0 cur w h2 h3 (by simpa using S7) (fun v hv=>hu.one v hv)
  rw[Nat.add_zero] at hst
  have hsz:(splice cur.toList (cz p) es).toArray.size=cur.size:=by have:=bN S7;simpa using this
  obtain⟨m1,m2⟩:=h.ok.write hb hro hl h2 (cur':=(splice cur.toList (cz p) es).toArray) (v:=c) hsz hrw
   (fun w' mem' hx hg=>by
    show cw γ mem' w' b { bx with val:=c }
    unfold cw
    simp only[bF]
    exact⟨blk,cap,_,tid,fr,hl,hg,h3.same hsz,gk,by simpa using yX (h4.ext hx) hn hs (hu.ext hx) hel⟩)
  exact⟨_,hst,h.go m2 m1,m2⟩
 ·rw[bF] at gz hn hs
  obtain⟨e,l,h1,h2,h3⟩:=gz
  rw[h1] at hn hs
  rcases h3 with ⟨h3,_⟩|⟨cU,cap',cur,tid,fr,h3,h4,h5,gk,h6,h7,h8,h9⟩
  ·rw[hl] at h3;cases h3
  ·rw[hl] at h3
   obtain⟨rfl,rfl⟩:=Prod.mk.inj (Option.some.inj h3)
   cases p with
   | nil=>cases hn
   | cons s p =>
     cases s with
     | qI k off=>cases hn
     | idx i size =>
       obtain⟨hsb,hn2⟩:=aA hn
       have hsz:=Nat.eq_of_beq_eq_true hsb
       obtain⟨x,hx,S1⟩:=bR hn2
       obtain⟨x',hx',hs2⟩:=bR hs
       obtain rfl:x=x':=Option.some.inj (hx.symm.trans hx')
       obtain⟨z,hq,hs3⟩:=bind_some hs2
       cases hz:Qb e z with
       | none=>rw[hz] at hs3;cases hs3
       | some y =>
         rw[hz] at hs3
         obtain rfl:=Option.some.inj hs3
         obtain⟨h0,hx2⟩:=pO hx
         have hr:=h9 _ x hx2
         have hrl:=hr.length
         have hi:i.toNat<l.length:=(List.getElem?_eq_some_iff.1 hx2).1
         have hm2:(i.toNat+1)*e.size≤cap*e.size:=Nat.mul_le_mul_right _ (by omega)
         rw[Nat.succ_mul] at hm2
         have V7:b8 γ σ.mem w (.data e x) .cells ((cur.toList.drop (i.toNat*e.size)).take e.size):=hr
         obtain⟨k1,k2⟩:=uN V7 S1
         rw[hrl] at k1
         have hcs:cur.toList.length=cap*e.size:=by simpa using h8
         have hoff:cz (.idx i size::p)=i.toNat*e.size+cz p:=by simp only[cz,hsz]
         have S7:cz (.idx i size::p)+es.length≤cur.toList.length:=by rw[hoff,hel,hcs];omega
         have hst:=dD (P:=P) blk (cz (.idx i size::p)) tid fr es 0 cur w h4 h5.th (by simpa using S7) (fun v hv=>hu.one v hv)
         rw[Nat.add_zero] at hst
         have QG:(splice cur.toList (cz (.idx i size::p)) es).toArray.size=cur.size:=by have:=bN S7;simpa using this
         have e1:=oY cur.toList (i.toNat*e.size) (cz p) e.size es (by rw[hel];exact k1) (by rw[hcs];omega)
         obtain⟨m1,m2⟩:=h.ok.write hb hro hl h4 (cur':=(splice cur.toList (cz (.idx i size::p)) es).toArray) (v:=.data (.slice e) (rF (α:=e.den) l i y)) QG hrw
          (fun w' mem' hx hg=>by
           show cw γ mem' w' b { bx with val:=.data (.slice e) (rF (α:=e.den) l i y) }
           unfold cw
           simp only[bF]
           refine⟨e,_,rfl,h2,.inr ⟨blk,cap,_,tid,fr,hl,hg,h5.same QG,gk,?_,h7,by rw[QG];exact h8,?_⟩⟩
           ·exact Nat.le_trans (Nat.le_of_eq List.length_set) h6
           ·have Xz:=DP hz (yX (V7.ext hx) S1 hq (hu.ext hx) hel)
            have:=Ee (w:=w') (I:=γ.I) (l:=l) (n:=l.length) (cs:=cur.toList) rfl (by rw[hcs];exact Nat.mul_le_mul_right _ h6)
             (fun j x hj=>bE.mono hx.I hx.cells (h9 j x hj)) hi Xz
            rw[e1,←hoff] at this
            exact this)
         exact⟨_,hst,h.go m2 m1,m2⟩
theorem Cs{ty:TypeId}{blk off n:Nat}{v:Value}{w':World}(hs:(Go.sizeOf ty).run P w=.ok n w)(hn:v.cells.toList.length=n)(hst:(storeCells ⟨blk,off,none⟩ v.cells.toList).run P w=.ok () w') :
  (Instr.storeAt ty (.pointer (some ⟨blk,off,none⟩)) v).run P w=.ok () w':=by
 have hn':v.cells.size=n:=by simpa using hn
 simp only[Instr.storeAt,Instr.sureAddr,storeVar,Sem.run_bind,Sem.run_pure,Result.andThen_ok,hs,hn',ne_eq,not_true_eq_false,if_false]
 exact hst
theorem Df(hc:eG P cx){ty:TypeId}{x y:Operand}(h:cG B N γ σ a w)(hr:(jz cx ty (cq σ x) (cq σ y) σ).run=some σ') :
  ∃w' γ',(Instr.storeAt ty (a.eval x) (a.eval y)).run P w=.ok () w'∧cG B N γ' σ' a w'∧Ext B γ σ.mem w γ' σ'.mem w':=by
 have hv:=h.cq x
 have hy:=h.cq y
 unfold jz at hr
 split at hr
 case h_2=>exact absurd hr (by intro k;cases k)
 rename_i b ax p hx
 rw[hx] at hv
 split at hr
 case h_2=>exact absurd hr (by intro k;cases k)
 rename_i bx hb
 obtain⟨aZ,hr2⟩:=aA hr
 have aZ:=Nat.eq_of_beq_eq_true aZ
 obtain⟨old,hn,iR⟩:=bind_some hr2
 obtain⟨blk,cap,hl,hval⟩:=aW hb aZ hv.2
 obtain hval:a.eval x=_:=by simpa using hval
 rw[hval]
 split at iR
 ·rename_i u z
  obtain⟨hT,qM⟩:=aA iR
  have hT:=gr hT
  have hD:=hc.T _ _ hT
  split at qM
  ·rename_i y0 σ1 hg
   obtain⟨ij,s1,s2,s3⟩:=jZ h hy hg
   obtain⟨cs,c1,c2⟩:=s3
   obtain UD:a.eval y=_:=by simpa using c2
   have Qe:(a.eval y).cells.toList=cs:=by rw[UD];exact oX c1
   obtain⟨fJ,g1,g2,g3⟩:=s2.boxes b bx hb
   have hl1:ij.loc b=some (blk,cap):=by
    have Xc:fJ.ax=bx.ax:=by
     unfold storeAt at qM
     split at qM
     ·rename_i bx2 hb2
      rw[g1] at hb2
      obtain rfl:=Option.some.inj hb2
      obtain⟨hc,_⟩:=aA qM
      simp only[Bool.and_eq_true] at hc
      have:=Nat.eq_of_beq_eq_true hc.1.1
      omega
     ·exact absurd qM (by intro k;cases k)
    rw[(g3 Xc).1];exact hl
   obtain⟨w',k1,k2,k3⟩:=yu (P:=P) s1 qM (u:=.data u y0) (es:=cs) c1 (fun old hf=>by
    unfold Uz at hf
    split at hf
    ·rename_i t q
     obtain rfl:=Ty.eq_of_beq hf
     exact c1.length
    ·cases hf) (fun bx hf bF=>by
    unfold Uz at hf
    split at hf
    ·rename_i t q kJ
     obtain rfl:=Ty.eq_of_beq hf
     cases t with
     | arr n e=>rw[bL.nk bF kJ];exact bL.nk (bx:={ bx with val:=_ }) bF rfl
     | _=>unfold bL.row;rw[bF,kJ]
    ·cases hf) hl1
   refine⟨w',ij,Cs (hD.sizeOf w) ?_ ?_,k2,s2.trans k3⟩
   ·rw[Qe];exact c1.length
   ·rw[Qe];exact k1
  ·exact absurd qM (by intro k;cases k)
 ·obtain⟨hT,qM⟩:=aA iR
  simp only[Bool.and_eq_true] at hT
  obtain⟨SJ,VI⟩:=hT
  have key:∀{v:aQ},Br cx ty v=true→isRef v=true→dY v=1∧(Go.sizeOf ty).run P w=.ok 1 w:=by
   intro v h1 h2
   unfold Br at h1
   split at h1
   ·cases h2
   ·split at h1
    ·rename_i e hT;exact⟨rfl,(hc.T _ _ hT).sizeOf w⟩
    ·cases h1
   ·exact⟨rfl,(hc.mU _ h1).2.1 w⟩
   ·exact⟨rfl,(hc.mU _ h1).2.1 w⟩
   ·exact⟨rfl,(hc.mU _ h1).2.1 w⟩
   ·cases h1
  obtain⟨h1,hsz⟩:=key SJ VI
  have VF:b8 γ σ.mem w (cq σ y) .cells (a.eval y).cells.toList:=by
   refine hy.ni (fun u e=>?_) (fun e=>?_)
   ·rw[e] at VI;cases VI
   ·rw[e] at VI;cases VI
  have QH:(a.eval y).cells.toList.length=1:=by rw[VF.length,h1]
  obtain⟨w',k1,k2,k3⟩:=yu (P:=P) h qM VF (fun old hf=>by
   simp only[Bool.or_eq_true,Bool.and_eq_true] at hf
   rcases hf with hf|hf
   ·rw[QH,(key hf.1 hf.2).1]
   ·rw[QH]
    cases old<;>first|rfl|cases hf) (fun bx hf bF=>by
   simp only[Bool.or_eq_true,Bool.and_eq_true] at hf
   have e1:∀{v:aQ} {bx:bL},(isRef v=true∨N2 v=true)→bx.buf=false→bx.val=v→bx.row=none:=by
    intro v bx h1 h2 h3
    unfold bL.row
    rw[h2,h3]
    cases v<;>first|rfl|(rcases h1 with h1|h1<;>cases h1)
   rw[e1 (hf.elim (fun q=>.inl q.2) .inr) bF rfl];exact e1 (bx:={ bx with val:=cq σ y }) (.inl VI) bF rfl) hl
  exact⟨w',γ,Cs hsz QH k1,k2,k3⟩
theorem oF(t:TypeId)(v:Value):(newVar t v).run P w=.ok ⟨w.heap.size,0,none⟩ (w.alloc (.cells v.cells t)):=by
 simp[newVar,newRow]
theorem xL{mem:Nat→Option bL}{w':World}{b:Nat}{bx:bL}{cap:Nat}:b8 (bD γ b (some (w.heap.size,cap))) (cc mem b bx) w' (.ptr b bx.ax []) .val [.pointer (some ⟨w.heap.size,0,none⟩)] :=
 ⟨⟨_,rfl,rfl⟩,fN (bt _ _) rfl ⟨w.heap.size,cap,by simp[bD],rfl⟩⟩
theorem Kb(hc:eG P cx){elem:TypeId}{nb k:Nat}{t:Ty}(h:cG B N γ σ a w)(hd:k<N)(hT:find cx.T elem=some t)
  (hr:(σ.aL (nb+k) (.data t t.zero) 0 false fun ax σ=>.ret (σ.put k (.ptr (nb+k) ax []))).run=some σ') :
  mb P B N γ σ a w (some k) (Instr.alloc elem true (.tuple #[])) σ':=by
 obtain⟨ax,aZ,hr2⟩:=dw hr
 obtain rfl:=Option.some.inj hr2
 obtain⟨z,hz,SL⟩:=(hc.T _ _ hT).zero w
 obtain⟨m1,m2⟩:=h.ok.newVar (b:=nb+k) (v:=.data t t.zero) (tid:=0) aZ (cs:=z.cells) elem (.inl rfl) (by rw[SL];exact mA w γ.I t)
 refine⟨.pointer (some ⟨w.heap.size,0,none⟩),_,_,?_,h.step m2 m1 hd xL,m2⟩
 simp only[Instr.alloc,Sem.run_bind,hz,Result.andThen_ok,oF,Sem.run_pure]
theorem Dg(hc:eG P cx){elem:TypeId}{nb k:Nat}(h:cG B N γ σ a w)(hd:k<N)(hT:cT cx.mU elem=true)
  (hr:(σ.aL (nb+k) .undef 0 false fun ax σ=>.ret (σ.put k (.ptr (nb+k) ax []))).run=some σ') :
  mb P B N γ σ a w (some k) (Instr.alloc elem true (.tuple #[])) σ':=by
 obtain⟨ax,aZ,hr2⟩:=dw hr
 obtain rfl:=Option.some.inj hr2
 obtain⟨z,hz,hone⟩:=(hc.mU _ hT).2.2
 have hz:=hz w
 obtain⟨m1,m2⟩:=h.ok.newVar (b:=nb+k) (v:=.undef) (tid:=0) aZ (cs:=z.cells) elem (.inl rfl) ⟨z,by cases z<;>first|rfl|(simp[Value.oneCell'] at hone),hone⟩
 refine⟨.pointer (some ⟨w.heap.size,0,none⟩),_,_,?_,h.step m2 m1 hd xL,m2⟩
 simp only[Instr.alloc,Sem.run_bind,hz,Result.andThen_ok,oF,Sem.run_pure]
theorem Kc{b ax:Nat}:∀{fs:List kK} {j:Nat} {σ:St} {γ:Gh} {r:aQ×St},bz B γ σ.mem w→(mkObj b ax fs j σ).run=some r →
  ∃ij,bz B ij r.2.mem w∧Ext B γ σ.mem w ij r.2.mem w∧r.2.slots=σ.slots ∧
   ∀γ' mem' w',Ext B ij r.2.mem w γ' mem' w'→(∃bx blk cap,mem' b=some bx∧ax≤bx.ax∧γ'.loc b=some (blk,cap))→b8 γ' mem' w' r.1 .cells (Eb fs):=by
 intro fs
 induction fs with
 | nil=>intro j σ γ r h hr;obtain rfl:=Option.some.inj hr;exact⟨γ,h,Ext.refl _ _ _ _,rfl,fun _ _ _ _ _=>rfl⟩
 | cons f r ih =>
   intro j σ γ q h hr
   cases f with
   | dat t =>
     obtain⟨y,h1,h2⟩:=bind_some hr
     obtain rfl:=Option.some.inj h2
     obtain⟨ij,k1,k2,k3,k4⟩:=ih h h1
     exact⟨ij,k1,k2,k3,fun γ' mem' w' hx hb=>⟨_,_,rfl,mA _ _ t,k4 γ' mem' w' hx hb⟩⟩
   | one =>
     obtain⟨y,h1,h2⟩:=bind_some hr
     obtain rfl:=Option.some.inj h2
     obtain⟨ij,k1,k2,k3,k4⟩:=ih h h1
     exact⟨ij,k1,k2,k3,fun γ' mem' w' hx hb=>⟨[.pointer none],_,rfl,rfl,k4 γ' mem' w' hx hb⟩⟩
   | self =>
     obtain⟨y,h1,h2⟩:=bind_some hr
     obtain rfl:=Option.some.inj h2
     obtain⟨ij,k1,k2,k3,k4⟩:=ih h h1
     refine⟨ij,k1,k2,k3,fun γ' mem' w' hx hb=>⟨[.pointer none],_,rfl,?_,k4 γ' mem' w' hx hb⟩⟩
     obtain⟨bx,blk,cap,g1,g2,g3⟩:=hb
     exact⟨⟨_,rfl,rfl⟩,bx,g1,g2,fun _=>⟨blk,cap,g3,.inl rfl⟩⟩
   | buf e eB =>
     obtain⟨he,jl⟩:=aA hr
     have he':0<e.size:=by simpa using he
     obtain⟨v,aZ,hr2⟩:=dw jl
     obtain⟨y,h1,h2⟩:=bind_some hr2
     obtain rfl:=Option.some.inj h2
     obtain⟨m1,m2⟩:=h.Ef (b:=b*1000+999-j) (e:=e) (tid:=eB) aZ he'
     obtain⟨ij,k1,k2,k3,k4⟩:=ih m1 h1
     refine⟨ij,k1,m2.trans k2,k3,fun γ' mem' w' hx hb=>⟨[.slice none 0 0],_,rfl,?_,k4 γ' mem' w' hx hb⟩⟩
     refine b8.ext (k2.trans hx) (v:=.whole (b*1000+999-j) v) (m:=.cells) ?_
     exact⟨⟨_,rfl,rfl⟩,fN (bt _ _) rfl ⟨e,0,rfl,rfl,.inl ⟨by simp[bD],rfl⟩⟩⟩
theorem Dh(hc:eG P cx){elem:TypeId}{nb k:Nat}{fs:List kK}(h:cG B N γ σ a w)(hd:k<N)(hT:find cx.nV elem=some fs)
  (hr:((mkObj (nb+k) (DJ σ (nb+k)) fs 0 σ).bind fun r=>r.2.aL (nb+k) r.1 elem false fun ax σ=>.ret (σ.put k (.ptr (nb+k) ax []))).run=some σ') :
  mb P B N γ σ a w (some k) (Instr.alloc elem true (.tuple #[])) σ':=by
 obtain⟨r,h1,h2⟩:=bind_some hr
 obtain⟨ij,k1,k2,k3,k4⟩:=Kc h.ok h1
 obtain⟨ax,aZ,hr2⟩:=dw h2
 obtain rfl:=Option.some.inj hr2
 obtain⟨z,hz,SL⟩:=OQ (hc.nV _ _ hT) w
 have hle:DJ σ (nb+k)≤ax:=by
  unfold DJ
  split
  ·rename_i bx pR
   obtain⟨fJ,e1,e2,_⟩:=k2.boxes _ bx pR
   have:=aZ fJ e1
   omega
  ·exact Nat.zero_le _
 let bx:bL:={ val:=r.1,tid:=elem,buf:=false,ro:=false,lk:=false,ax }
 have hw:rM B w (w.alloc (.cells z.cells elem)):=(rM.refl _ _).alloc k1.base _
 have hx:=qL (L:=some (w.heap.size,0)) k1 (bx:=bx) aZ hw (cr w _)
 have gz:cw (bD ij (nb+k) (some (w.heap.size,0))) (cc r.2.mem (nb+k) bx) (w.alloc (.cells z.cells elem)) (nb+k) bx :=
  ⟨w.heap.size,0,z.cells,elem,(0,0),by simp[bD],heap_alloc_new w _,pP _,.inr rfl,by
   rw[SL]
   exact k4 _ _ _ hx ⟨bx,w.heap.size,0,bt _ _,hle,by simp[bD]⟩⟩
 have m1:=k1.add aZ hw (cr w _) (fun blk k e=>by obtain⟨rfl,rfl⟩:=Prod.mk.inj (Option.some.inj e);exact⟨Nat.le_refl _,by simp⟩) gz
 refine⟨.pointer (some ⟨w.heap.size,0,none⟩),_,_,?_,?_,k2.trans hx⟩
 ·simp only[Instr.alloc,Sem.run_bind,hz,Result.andThen_ok,oF,Sem.run_pure]
 ·have:=h.step (k2.trans hx) m1 hd (xL (bx:=bx))
  rw[←k3] at this
  exact this
theorem Ct{b j:Nat}{v:aQ}{σ:St}{r:aQ×St}(hr:(kL b [] j v σ).run=some r):r=(v,σ):=by
 cases v with
 | data t x=>cases t<;>first|(obtain rfl:=Option.some.inj hr;rfl)|cases hr
 | _=>cases hr
theorem Ae{b j:Nat}{f:kK}{q:List kK}{v:aQ}{σ:St}{r:aQ×St}(hr:(kL b (f::q) j v σ).run=some r) :
  (∃x u y,v=.mix x u∧(kL b q (j+1) u σ).run=some y∧r=(.mix x y.1,y.2)) ∨
  (∃e eB u,v=.mix .lz u∧0<e.size∧(σ.aL (b*1000+999-j) (.data (.slice e) []) eB true fun ax σ=>(kL b q (j+1) u σ).bind fun x=>.ret (.mix (.whole (b*1000+999-j) ax) x.1,x.2)).run=some r):=by
 cases v with
 | mix a u =>
   cases f with
   | dat t =>
     cases a with
     | data t' z =>
       obtain⟨y,h1,h2⟩:=bind_some (show((kL b q (j+1) u σ).bind fun x=>.ret (.mix (.data t' z) x.1,x.2)).run=some r from hr)
       exact .inl ⟨_,u,y,rfl,h1,(Option.some.inj h2).symm⟩
     | _=>cases hr
   | one =>
     cases a with
     | oA =>
       obtain⟨y,h1,h2⟩:=bind_some (show((kL b q (j+1) u σ).bind fun x=>.ret (.mix .oA x.1,x.2)).run=some r from hr)
       exact .inl ⟨_,u,y,rfl,h1,(Option.some.inj h2).symm⟩
     | _=>cases hr
   | buf e eB =>
     cases a with
     | lz =>
       obtain⟨he,jl⟩:=aA hr
       exact .inr ⟨e,eB,u,rfl,by simpa using he,jl⟩
     | _=>cases hr
   | self=>cases a<;>cases hr
 | _=>cases f<;>cases hr
theorem Di(hc:eG P cx){elem:TypeId}{nb k:Nat}{bf:List Nat}{t:Ty}(h:cG B N γ σ a w)(hd:k<N)(hT:find cx.T elem=some t)
  (hr:(rq nb bf k t σ).run=some σ'):mb P B N γ σ a w (some k) (Instr.alloc elem true (.tuple #[])) σ':=by
 unfold rq at hr
 split at hr
 ·rename_i e _
  obtain⟨he,jl⟩:=aA hr
  have he':0<e.size:=by simpa using he
  obtain⟨v,aZ,hr2⟩:=dw jl
  obtain⟨m1,m2⟩:=h.ok.Ef (b:=(nb+k)*1000+999) (e:=e) (tid:=0) aZ he'
  obtain⟨ax,Wb,iR⟩:=dw hr2
  obtain rfl:=Option.some.inj iR
  obtain⟨i,z,i1,i2,i3,i4⟩:=(hc.T _ _ hT).info
  have hz:(zeroValue elem).run P w=.ok z w:=by simp[zeroValue,typeInfo,i1,i3]
  have wq:b8 (bD γ ((nb+k)*1000+999) none) (cc σ.mem ((nb+k)*1000+999) { val:=.data (.slice e) ([]:List e.den),tid:=0,buf:=true,ro:=false,lk:=false,ax:=v }) w (.whole ((nb+k)*1000+999) v) .cells z.cells.toList:=by
   rw[i4]
   exact⟨⟨_,rfl,rfl⟩,fN (bt _ _) rfl ⟨e,0,rfl,rfl,.inl ⟨by simp[bD],rfl⟩⟩⟩
  obtain⟨n1,n2⟩:=m1.newVar (b:=nb+k) (v:=.whole ((nb+k)*1000+999) v) (tid:=0) Wb (cs:=z.cells) elem (.inl rfl) wq
  refine⟨.pointer (some ⟨w.heap.size,0,none⟩),_,_,?_,h.step (m2.trans n2) n1 hd xL,m2.trans n2⟩
  simp only[Instr.alloc,Sem.run_bind,hz,Result.andThen_ok,oF,Sem.run_pure]
 ·exact Kb hc h hd hT hr
theorem Gl{b:Nat}:∀{fs:List kK} {j:Nat} {v:aQ} {σ:St} {γ:Gh} {r:aQ×St} {cs:List Value},bz B γ σ.mem w→b8 γ σ.mem w v .cells cs→(kL b fs j v σ).run=some r →
  ∃ij,bz B ij r.2.mem w∧Ext B γ σ.mem w ij r.2.mem w∧r.2.slots=σ.slots∧b8 ij r.2.mem w r.1 .cells cs:=by
 intro fs
 induction fs with
 | nil =>
   intro j v σ γ r cs h hv hr
   obtain rfl:=Ct hr
   exact⟨γ,h,Ext.refl _ _ _ _,rfl,hv⟩
 | cons f q ih =>
   intro j v σ γ r cs h hv hr
   rcases Ae hr with ⟨x,u,y,rfl,h1,rfl⟩|⟨e,eB,u,rfl,he,jl⟩
   ·obtain⟨c1,c2,rfl,v1,v2⟩:=hv
    obtain⟨ij,k1,k2,k3,k4⟩:=ih h v2 h1
    exact⟨ij,k1,k2,k3,c1,c2,rfl,v1.ext k2,k4⟩
   ·obtain⟨k,aZ,hr2⟩:=dw jl
    obtain⟨y,h1,h2⟩:=bind_some hr2
    obtain rfl:=Option.some.inj h2
    obtain⟨c1,c2,rfl,v1,v2⟩:=hv
    obtain⟨m1,m2⟩:=h.Ef (b:=b*1000+999-j) (e:=e) (tid:=eB) aZ he
    obtain⟨ij,k1,k2,k3,k4⟩:=ih m1 (v2.ext m2) h1
    obtain rfl:c1=[.slice none 0 0]:=v1
    refine⟨ij,k1,m2.trans k2,k3,[.slice none 0 0],c2,rfl,?_,k4⟩
    refine b8.ext k2 (v:=.whole (b*1000+999-j) k) (m:=.cells) ?_
    exact⟨⟨_,rfl,rfl⟩,fN (bt _ _) rfl ⟨e,0,rfl,rfl,.inl ⟨by simp[bD],rfl⟩⟩⟩
theorem Gm{elem:TypeId}{nb k:Nat}{x:Operand}{fs:List kK}(h:cG B N γ σ a w)(hd:k<N)(hu:cq σ x≠.undef)(ht:∀u,cq σ x≠.yT u)
  (hr:((kL (nb+k) fs 0 (cq σ x) σ).bind fun r=>r.2.aL (nb+k) r.1 elem false fun ax σ=>.ret (σ.put k (.ptr (nb+k) ax []))).run=some σ') :
  mb P B N γ σ a w (some k) (Instr.box elem (a.eval x)) σ':=by
 obtain⟨r,h1,h2⟩:=bind_some hr
 obtain⟨ij,k1,k2,k3,k4⟩:=Gl h.ok ((h.cq x).ni ht (fun e=>absurd e hu)) h1
 obtain⟨ax,aZ,hr2⟩:=dw h2
 obtain rfl:=Option.some.inj hr2
 obtain⟨m1,m2⟩:=k1.newVar (b:=nb+k) (v:=r.1) (tid:=elem) aZ (cs:=(a.eval x).cells) elem (.inr rfl) k4
 refine⟨.pointer (some ⟨w.heap.size,0,none⟩),_,_,?_,?_,k2.trans m2⟩
 ·simp only[Instr.box,Sem.run_bind,oF,Result.andThen_ok,Sem.run_pure]
 ·have:=h.step (k2.trans m2) m1 hd xL
  rw[←k3] at this
  exact this
theorem OW{elem:TypeId}{nb k:Nat}{x:Operand}(h:cG B N γ σ a w)(hd:k<N)(hu:cq σ x≠.undef)(ht:∀u,cq σ x≠.yT u)
  (hr:(σ.aL (nb+k) (cq σ x) 0 false fun ax σ=>.ret (σ.put k (.ptr (nb+k) ax []))).run=some σ') :
  mb P B N γ σ a w (some k) (Instr.box elem (a.eval x)) σ':=by
 obtain⟨ax,aZ,hr2⟩:=dw hr
 obtain rfl:=Option.some.inj hr2
 obtain⟨m1,m2⟩:=h.ok.newVar (b:=nb+k) (v:=cq σ x) (tid:=0) aZ (cs:=(a.eval x).cells) elem (.inl rfl) ((h.cq x).ni ht (fun e=>absurd e hu))
 refine⟨.pointer (some ⟨w.heap.size,0,none⟩),_,_,?_,h.step m2 m1 hd xL,m2⟩
 simp only[Instr.box,Sem.run_bind,oF,Result.andThen_ok,Sem.run_pure]
theorem S8{mem:Nat→Option bL}:∀{u v:aQ} {k:Nat} {vs:List Value},b8 γ mem w u .many vs→nth u k=some v→∃x,vs[k]?=some x∧b8 γ mem w v .val [x]:=by
 intro u
 induction u with
 | mix p q Mn Ka =>
   intro v k vs h hn
   obtain⟨c,r,rfl,h1,h2⟩:=h
   cases k with
   | zero=>obtain rfl:=Option.some.inj hn;exact⟨c,rfl,h1⟩
   | succ k=>obtain⟨x,hx,hr⟩:=Ka h2 hn;exact⟨x,by simpa using hx,hr⟩
 | _=>intro v k vs h hn;exact absurd hn (by intro k;cases k)
theorem Gn{x:Operand}{k:Nat}{vs v:aQ}(h:cG B N γ σ a w)(hd:∀k,d=some k→k<N)(hx:cq σ x=.yT vs)(hn:nth vs k=some v) :
  mb P B N γ σ a w d (Instr.extract (a.eval x) k) (σ.aR d v):=by
 have hv:=h.cq x
 rw[hx] at hv
 obtain⟨arr,h1,h2⟩:=hv
 obtain h1:a.eval x=_:=by simpa using h1
 obtain⟨y,hy,hr⟩:=S8 h2 hn
 refine bG h hd (x:=y) ?_ hr
 rw[h1]
 have:arr[k]?=some y:=by simpa using hy
 simp only[Instr.extract,this,Sem.run_pure]
theorem QI:∀{ops:List Operand} {cs:List (Nat×Nat)},cG B N γ σ a w→Bt (ops.map (cq σ))=some cs→cs.length=ops.length ∧
  ∀(i:Nat) b ax,cs[i]?=some (b,ax)→jX σ.mem b ax fun _=>∃blk cap,γ.loc b=some (blk,cap)∧(ops.map a.eval)[i]?=some (.pointer (some ⟨blk,0,none⟩)):=by
 intro ops
 induction ops with
 | nil=>intro cs h hc;obtain rfl:=Option.some.inj hc;exact⟨rfl,fun i b ax hi=>by cases hi⟩
 | cons o r ih =>
   intro cs h hc
   have ho:=h.cq o
   simp only[List.map_cons] at hc
   unfold Bt at hc
   split at hc
   ·rename_i heq;cases heq
   ·rename_i b0 S9 r0 heq
    injection heq with q1 q2
    subst q2
    rw[q1] at ho
    cases hr:Bt (r.map (cq σ)) with
    | none=>rw[hr] at hc;cases hc
    | some cs' =>
      rw[hr] at hc
      obtain rfl:=Option.some.inj hc
      obtain⟨i1,i2⟩:=ih h hr
      refine⟨by simp[i1],fun i b ax hi=>?_⟩
      cases i with
      | zero =>
        obtain⟨rfl,rfl⟩:=Prod.mk.inj (Option.some.inj hi)
        obtain⟨bx,k1,k2,k3⟩:=ho.2
        refine⟨bx,k1,k2,fun e=>?_⟩
        obtain⟨blk,cap,j1,j2⟩:=k3 e
        obtain j2:a.eval o=_:=by simpa using j2
        exact⟨blk,cap,j1,by simp[j2,cz]⟩
      | succ i =>
        have:=i2 i b ax (by simpa using hi)
        simpa using this
   ·cases hc
theorem Ek{f:Nat}{caps:Array Operand}{cs:List (Nat×Nat)}(h:cG B N γ σ a w)(hd:∀k,d=some k→k<N)(hcs:Bt (caps.toList.map (cq σ))=some cs) :
  mb P B N γ σ a w d (Instr.makeFunc (.func f) #[] (caps.map a.eval)) (σ.aR d (.fn f cs)):=by
 obtain⟨h1,h2⟩:=QI h hcs
 refine bG h hd (x:=.func (.func f) #[] (caps.map a.eval)) rfl ?_
 refine⟨caps.map a.eval,rfl,by rw[h1];simp,fun i b ax hi=>?_⟩
 obtain⟨bx,k1,k2,k3⟩:=h2 i b ax hi
 refine⟨bx,k1,k2,fun e=>?_⟩
 obtain⟨blk,cap,j1,j2⟩:=k3 e
 exact⟨blk,cap,j1,by simpa using j2⟩
end
end Go.Ge
