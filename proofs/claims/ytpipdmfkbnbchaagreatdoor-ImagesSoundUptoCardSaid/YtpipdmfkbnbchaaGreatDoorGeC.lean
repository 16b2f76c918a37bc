/- A ghost interpreter of the model's code, and that it tells the truth: part 3. It says of a function of plain data what a call of it comes to. -/
import Derived.Test.YtpipdmfkbnbchaaGreatDoorGeB
namespace Go.Ge
set_option linter.unusedVariables false
set_option linter.unusedSimpArgs false
open RowKit
section
variable {P:Program} {B:qz} {N:Nat} {γ:Gh} {σ σ':St} {a:Act} {w:World} {d:Option Nat} {cx:Ctx}
theorem FQ{s:TypeId}{fs:Array Field}{k:Nat}{f:Field}{u:Ty}(hs:P.underlying s=some (.struct fs))(hf:fs.toList[k]?=some f)(hu:Den P u f.type)(h0:0<u.size)(blk off:Nat) :
  (Instr.fieldAt s (.pointer (some ⟨blk,off,none⟩)) k).run P w=.ok (.pointer (some ⟨blk,off+f.offset,none⟩)) w:=by
 have hf':fs[k]?=some f:=by simpa using hf
 have hz:¬(u.size=0):=by omega
 simp only[Instr.fieldAt,Sem.run_bind,run_underlying hs,Result.andThen_ok,hf',Instr.sureAddr,Sem.run_pure,fieldPlace,hu.sizeOf w,if_neg hz,addr_add]
theorem MD{s:TypeId}{fs:Array Field}{k:Nat}{f:Field}{i:TypeInfo}(hs:P.underlying s=some (.struct fs))(hf:fs.toList[k]?=some f)(hi:P.info? f.type=some i)(h0:0<i.size)(blk off:Nat) :
  (Instr.fieldAt s (.pointer (some ⟨blk,off,none⟩)) k).run P w=.ok (.pointer (some ⟨blk,off+f.offset,none⟩)) w:=by
 have hf':fs[k]?=some f:=by simpa using hf
 have hz:¬(i.size=0):=by omega
 have hsz:(Go.sizeOf f.type).run P w=.ok i.size w:=by simp[Go.sizeOf,typeInfo,hi]
 simp only[Instr.fieldAt,Sem.run_bind,run_underlying hs,Result.andThen_ok,hf',Instr.sureAddr,Sem.run_pure,fieldPlace,hsz,if_neg hz,addr_add]
theorem Cf{t:Ty}{s:TypeId}(ht:Den P t s){k:Nat}{u:Ty}{o:Nat}(hu:tT t k=some u)(ho:iQ t k=some o) :
  ∃(fs:Array Field) (f:Field),P.underlying s=some (.struct fs)∧fs.toList[k]?=some f∧f.offset=o∧Den P u f.type∧0<u.size:=by
 cases t with
 | pair a b =>
   obtain⟨fs,h1,h2,_⟩:=ht.pair
   obtain⟨f,k1,k2,k3,k4⟩:=h2.at hu ho
   exact⟨fs,f,h1,k1,by omega,k3,k4⟩
 | _=>cases k<;>cases hu
theorem AZ(hc:fC P cx){s:TypeId}{x:Operand}{k:Nat}(h:cX B N γ σ a w)(hd:∀k,d=some k→k<N)(hr:(eM cx d s (cJ σ x) k σ).run=some σ') :
  oJ P B N γ σ a w d (Instr.fieldAt s (a.eval x) k) σ':=by
 have hv:=h.cJ x
 unfold eM at hr
 split at hr
 ·rename_i u y hx
  rw[hx] at hv
  obtain⟨hb,hr2⟩:=aD hr
  have ht:=hc.T _ _ (iu hb)
  split at hr2
  ·rename_i o t z hf
   obtain rfl:=Option.some.inj hr2
   obtain⟨blk,off,cs,h1,h2,h3⟩:=hv
   obtain h1:a.eval x=_:=by simpa using h1
   obtain⟨t',z',e1,e2,e3,e4,e5⟩:=Cd (w:=w) h2 (show oI u y k=some (o,.data t z) from hf)
   cases e1
   obtain⟨fs,f,g1,g2,g3,g4,g5⟩:=Cf ht e2 e3
   refine bM h hd (by rw[h1];exact FQ g1 g2 g4 g5 blk off) ⟨blk,off+f.offset,(cs.drop o).take t.size,rfl,e5,fun j v hj=>?_⟩
   rw[List.getElem?_take] at hj
   split at hj
   ·rw[List.getElem?_drop] at hj
    have:=h3 _ v hj
    rw[g3,Nat.add_assoc];exact this
   ·cases hj
  ·cases hr2
 ·rename_i b aC p hx
  rw[hx] at hv
  obtain⟨hb,hr2⟩:=aD hr
  obtain⟨bx,rS,bt⟩:=kS hb
  split at hr2
  ·rename_i t hT
   split at hr2
   ·rename_i off u ho hu
    obtain rfl:=Option.some.inj hr2
    obtain⟨blk,cap,hl,hval⟩:=bq rS bt hv.2
    obtain hval:a.eval x=_:=by simpa using hval
    obtain⟨fs,f,g1,g2,g3,g4,g5⟩:=Cf (hc.T _ _ hT) hu ho
    refine bM h hd (by rw[hval];exact FQ g1 g2 g4 g5 blk (cQ p)) ⟨⟨_,rfl,rfl⟩,bx,rS,by omega,fun _=>⟨blk,cap,hl,?_⟩⟩
    rw[zf,g3];simp[cQ]
   ·cases hr2
  ·split at hr2
   ·rename_i fs hO
    split at hr2
    ·rename_i off ho
     obtain rfl:=Option.some.inj hr2
     obtain⟨blk,cap,hl,hval⟩:=bq rS bt hv.2
     obtain hval:a.eval x=_:=by simpa using hval
     obtain⟨gs,f,i,g1,g2,g3,g4,g5⟩:=Yl (hc.sY _ _ hO) ho
     refine bM h hd (by rw[hval];exact MD g1 g2 g4 g5 blk (cQ p)) ⟨⟨_,rfl,rfl⟩,bx,rS,by omega,fun _=>⟨blk,cap,hl,?_⟩⟩
     rw[zf,g3];simp[cQ]
    ·cases hr2
   ·cases hr2
 ·cases hr
theorem Ow(hc:fC P cx){xt:TypeId}{k o:Nat}{u:Ty}{y:u.den}{v:aS}{val:Value}(hu:find cx.T xt=some u)(hv:cw γ σ.mem w (.data u y) .val [val])(hf:lN (.data u y) k=some (o,v)) :
  ∃z,(Instr.field xt val k).run P w=.ok z w∧cw γ σ.mem w v .val [z]:=by
 have ht:=hc.T _ _ hu
 obtain⟨cs,h1,rfl⟩:=dP.1 hv
 obtain⟨t',z',rfl,e2,e3,e4,e5⟩:=Cd (w:=w) h1 hf
 obtain⟨fs,f,g1,g2,g3,g4,g5⟩:=Cf ht e2 e3
 have adC:u.isAgg=true:=by cases u<;>first|rfl|(cases k<;>cases e2)
 refine⟨cA t' ((cs.drop o).take t'.size),?_,⟨_,e5,rfl⟩⟩
 have hf':fs[k]?=some f:=by simpa using g2
 have hp:=Ay (P:=P) (w:=w) g4 (cs:=cs.toArray) (off:=f.offset) (by rw[g3];simpa using e4) rR
 simp only[cA,adC,cond_true,Instr.field,Sem.run_bind,run_underlying g1,Result.andThen_ok,hf',asAgg,Sem.run_pure,hp]
 rw[g3]
theorem pQ{t eZ:TypeId}{sz:Nat}(ht:P.underlying t=some (.slice eZ))(hs:(Go.sizeOf eZ).run P w=.ok sz w)(blk off len cap:Nat)(k:IntKind){i:Int}(h0:0≤i)(h1:i<len) :
  (Instr.indexAt t (.slice (some ⟨blk,off,none⟩) len cap) (.int k i)).run P w=.ok (.pointer (some ⟨blk,off+i.toNat*sz,none⟩)) w:=by
 simp only[Instr.indexAt,asIntOf,Sem.run_bind,Sem.run_pure,Result.andThen_ok,run_underlying ht,and_self,h0,h1,if_true,hs,addr_add]
theorem yC{t eZ:TypeId}{sz n:Nat}(ht:P.underlying t=some (.array n eZ))(hs:(Go.sizeOf eZ).run P w=.ok sz w)(blk off:Nat)(k:IntKind){i:Int}(h0:0≤i)(h1:i<n) :
  (Instr.indexAt t (.pointer (some ⟨blk,off,none⟩)) (.int k i)).run P w=.ok (.pointer (some ⟨blk,off+i.toNat*sz,none⟩)) w:=by
 simp only[Instr.indexAt,asIntOf,Sem.run_bind,Sem.run_pure,Result.andThen_ok,run_underlying ht,Instr.sureAddr,and_self,h0,h1,if_true,hs,addr_add]
theorem zg{i n:Int}(h:within i n=true):0≤i∧i<n:=by
 simp only[within,Bool.and_eq_true,decide_eq_true_eq] at h;exact h
theorem iF{i j n:Int}(h:inside i j n=true):0≤i∧i≤j∧j≤n:=by
 simp only[inside,Bool.and_eq_true,decide_eq_true_eq] at h;exact⟨h.1.1,h.1.2,h.2⟩
theorem Dc{b aC:Nat}{e:Ty}{n:Int}(h:xz σ b aC=some (e,n)):∃(bx:bU) (k:Nat),σ.mem b=some bx∧bx.aC=aC∧bx.row=some (e,k)∧n=k:=by
 unfold xz at h
 split at h
 ·rename_i bx hb
  cases bt:Nat.beq bx.aC aC with
  | false=>rw[bt] at h;cases h
  | true =>
    rw[bt] at h
    simp only[cond_true] at h
    split at h
    ·rename_i e' l bK hval
     obtain⟨rfl,rfl⟩:=Prod.mk.inj (Option.some.inj h)
     exact⟨bx,_,hb,Nat.eq_of_beq_eq_true bt,by rw[bU.row,bK,hval],rfl⟩
    ·rename_i n' e' l bK hval
     obtain⟨rfl,rfl⟩:=Prod.mk.inj (Option.some.inj h)
     exact⟨bx,_,hb,Nat.eq_of_beq_eq_true bt,by rw[bU.row,bK,hval],rfl⟩
    ·cases h
 ·cases h
theorem bU.dH{bx:bU}{e:Ty}{l:List e.den}(hb:bx.buf=true)(hv:bx.val=.data (.slice e) l):bx.row=some (e,l.length):=by rw[bU.row,hb,hv]
theorem bU.pR{bx:bU}{e:Ty}{n:Nat}{l:(Ty.arr n e).den}(hb:bx.buf=false)(hv:bx.val=.data (.arr n e) l):bx.row=some (e,n):=by rw[bU.row,hb,hv]
theorem Cg(hc:fC P cx){t e:Nat}(h:Oh cx t=some e):P.underlying t=some (.slice e)∧dJ cx.sE e=true:=by
 unfold Oh at h
 split at h
 ·cases h
 ·split at h
  ·rename_i u hu
   cases hm:dJ cx.sE u with
   | false=>rw[hm] at h;cases h
   | true =>
     rw[hm] at h
     obtain rfl:=Option.some.inj h
     exact⟨hc.els _ _ hu,hm⟩
  ·cases h
theorem Q9{b aC:Nat}{i:Int}:∀{m k:Nat},(HP d b aC σ i m k).run=some σ'→∃j:Nat,k≤j∧j<k+m∧i=j∧σ'=σ.aU d (.ptr b aC [.fJ j j]):=by
 intro m
 induction m with
 | zero=>intro k hr;cases hr
 | succ m ih =>
   intro k hr
   have hn:=fL hr
   cases hi:bC i k with
   | true =>
     rw[hi] at hn
     obtain rfl:=Option.some.inj hn
     exact⟨k,Nat.le_refl _,by omega,by simpa [bC] using hi,rfl⟩
   | false =>
     rw[hi] at hn
     obtain⟨j,h1,h2,h3,h4⟩:=ih hn
     exact⟨j,by omega,by omega,h3,h4⟩
theorem Ox{q:List FK}(h:Mu q=true):cQ q=0:=by
 unfold Mu at h
 split at h
 ·simp[cQ,Nat.eq_of_beq_eq_true h]
 ·cases h
theorem A2(hc:fC P cx){ty:TypeId}{x:Operand}{ki:IntKind}{i:Int}(h:cX B N γ σ a w)(hd:∀k,d=some k→k<N)(hr:(eL cx d ty (cJ σ x) i σ).run=some σ') :
  oJ P B N γ σ a w d (Instr.indexAt ty (a.eval x) (.int ki i)) σ':=by
 have hv:=h.cJ x
 unfold eL at hr
 split at hr
 ·rename_i u e l hT hx
  rw[hx] at hv
  obtain⟨hb,hr2⟩:=aD hr
  obtain rfl:=Ty.eq_of_beq hb
  obtain⟨y,hy,jG⟩:=b5 hr2
  obtain rfl:=Option.some.inj jG
  obtain⟨h0,hy2⟩:=rP hy
  obtain⟨eZ,k1,k2,k3,k4⟩:=(hc.T _ _ hT).slice
  obtain⟨cs,h1,hval⟩:=dP.1 hv
  have hi:i.toNat<List.length (α:=u.den) l:=(List.getElem?_eq_some_iff.1 hy2).1
  rcases h1 with ⟨_,h1⟩|⟨blk,off,cap,h1,h2,h3,h4⟩
  ·exfalso
   have:List.length (α:=u.den) l=0:=by rw[show l=([]:List u.den) from h1];rfl
   omega
  ·rw[h1] at hval
   have FP:a.eval x=.slice (some ⟨blk,off,none⟩) (List.length (α:=u.den) l) cap:=hval
   obtain⟨es,g1,g2,g3⟩:=h4 _ y hy2
   refine bM h hd (by rw[FP];exact pQ k1 (k2.sizeOf w) blk off _ cap ki h0 (by omega)) ⟨blk,off+i.toNat*u.size,es,rfl,g3,fun j v hj=>?_⟩
   exact g2 j v hj
 ·rename_i m u n e l hT hx
  rw[hx] at hv
  obtain⟨hb,hr2⟩:=aD hr
  simp only[Bool.and_eq_true] at hb
  obtain rfl:=Ty.eq_of_beq hb.1
  obtain rfl:=Nat.eq_of_beq_eq_true hb.2
  obtain⟨y,hy,jG⟩:=b5 hr2
  obtain rfl:=Option.some.inj jG
  obtain⟨h0,hy2⟩:=rP hy
  obtain⟨eZ,k1,k2,k3⟩:=(hc.T _ _ hT).arr
  obtain⟨blk,off,cs,h1,h2,h3⟩:=hv
  obtain h1:a.eval x=_:=by simpa using h1
  have hi:i.toNat<m:=by have:=(List.getElem?_eq_some_iff.1 hy2).1;have:=h2.1;omega
  have td:=h2.2.2 _ y hy2
  refine bM h hd (by rw[h1];exact yC k1 (k2.sizeOf w) blk off ki h0 (by omega)) ⟨blk,off+i.toNat*u.size,_,rfl,td,fun j v hj=>?_⟩
  rw[List.getElem?_take] at hj
  split at hj
  ·rw[List.getElem?_drop] at hj
   have:=h3 _ v hj
   rw[Nat.add_assoc];exact this
  ·cases hj
 ·rename_i u b aC hT hx
  rw[hx] at hv
  split at hr
  ·rename_i e n he
   obtain⟨hb,hr2⟩:=aD hr
   obtain rfl:=Ty.eq_of_beq hb
   obtain⟨hw,jG⟩:=cD hr2
   obtain rfl:=Option.some.inj jG
   obtain⟨h0,h1⟩:=zg hw
   obtain⟨bx,k,rS,bt,hrow,rfl⟩:=Dc he
   obtain⟨eZ,k1,k2,k3,k4⟩:=(hc.T _ _ hT).slice
   obtain⟨e',n',g1,g2,g3⟩:=bq rS bt hv.2
   rw[hrow] at g2
   obtain⟨rfl,rfl⟩:=Prod.mk.inj (Option.some.inj g2)
   rcases g3 with ⟨g3,g4⟩|⟨blk,cap,g3,g4⟩
   ·exfalso
    have jj:=h.ok.boxes b bx rS
    rw[cP,g1] at jj
    obtain⟨e2,l,j1,j2,j3⟩:=jj
    rcases j3 with ⟨_,j4⟩|⟨_,_,_,_,_,j3,_⟩
    ·rw[bU.dH g1 j1,j4] at hrow
     have:0=k:=by
      have:=(Prod.mk.inj (Option.some.inj hrow)).2
      simpa using this
     omega
    ·rw[g3] at j3;cases j3
   ·obtain g4:a.eval x=_:=by simpa using g4
    refine bM h hd (by rw[g4];exact pQ k1 (k2.sizeOf w) blk 0 _ cap ki h0 h1) ⟨⟨_,rfl,rfl⟩,bx,rS,by omega,fun _=>⟨blk,cap,g3,by simp[cQ]⟩⟩
  ·cases hr
 ·rename_i u b aC lo n hT hx
  rw[hx] at hv
  split at hr
  ·rename_i e n2 he
   obtain⟨hb,hr2⟩:=aD hr
   obtain rfl:=Ty.eq_of_beq hb
   obtain⟨hw,jG⟩:=cD hr2
   obtain rfl:=Option.some.inj jG
   obtain⟨h0,h1⟩:=zg hw
   obtain⟨bx,k,rS,bt,hrow,rfl⟩:=Dc he
   obtain⟨eZ,k1,k2,k3,k4⟩:=(hc.T _ _ hT).slice
   obtain⟨e',n',g2,g3,g4,g5,base,cap,g6,g7,g8,gF,g9⟩:=bq rS bt hv.2
   rw[hrow] at g2
   obtain⟨rfl,rfl⟩:=Prod.mk.inj (Option.some.inj g2)
   rcases g9 with g9|⟨blk,c,g9,g10⟩
   ·omega
   ·obtain g6:a.eval x=_:=by simpa using g6
    refine bM h hd (by rw[g6,g10];exact pQ k1 (k2.sizeOf w) blk _ _ cap ki h0 (by omega)) ⟨⟨_,rfl,rfl⟩,bx,rS,by omega,fun _=>⟨blk,c,g9,?_⟩⟩
    have:(plus lo i).toNat=lo.toNat+i.toNat:=by simp only[plus];omega
    simp only[cQ,this,Nat.add_mul,Nat.add_zero]
  ·cases hr
 ·rename_i m u b aC p hT hx
  rw[hx] at hv
  obtain⟨hb,hr2⟩:=aD hr
  obtain⟨bx,rS,bt⟩:=kS hb
  obtain⟨hw,jG⟩:=cD hr2
  obtain rfl:=Option.some.inj jG
  obtain⟨h0,h1⟩:=zg hw
  obtain⟨eZ,k1,k2,k3⟩:=(hc.T _ _ hT).arr
  obtain⟨blk,cap,hl,hval⟩:=bq rS bt hv.2
  obtain hval:a.eval x=_:=by simpa using hval
  refine bM h hd (by rw[hval];exact yC k1 (k2.sizeOf w) blk _ ki h0 h1) ⟨⟨_,rfl,rfl⟩,bx,rS,by omega,fun _=>⟨blk,cap,hl,?_⟩⟩
  rw[zf];simp[cQ]
 ·rename_i b aC q e0 k0 lo n hT hx
  rw[hx] at hv
  split at hr
  ·rename_i e he
   obtain⟨hb,hr2⟩:=aD hr
   simp only[Bool.and_eq_true,decide_eq_true_eq] at hb
   obtain⟨⟨hq,rfl⟩,hl⟩:=hb
   obtain⟨bx,rS,bt⟩:=kS hl
   obtain⟨k1,k2⟩:=Cg hc he
   obtain⟨j,_,hj,rfl,rfl⟩:=Q9 hr2
   obtain⟨_,blk,c,g1,g2,g3,g4,base,cap,g5,g6,g7⟩:=bq rS bt hv.2
   obtain g5:a.eval x=_:=by simpa using g5
   rcases g7 with g7|g7
   ·subst g7;simp at hj
   ·rw[Ox hq] at g7
    have hj':((j:Nat):Int)<(n.toNat:Int):=by omega
    refine bM h hd (by rw[g5,g7];exact pQ k1 ((hc.sE _ k2).2.1 w) blk _ _ cap ki (by omega) hj') ⟨⟨_,rfl,rfl⟩,bx,rS,by omega,fun _=>⟨blk,c,g1,?_⟩⟩
    simp[cQ]
  ·cases hr
 ·cases hr
theorem u8_in(b:UInt8):IntKind.u8.min≤u8 b∧u8 b≤IntKind.u8.max:=by
 have:=b.toNat_lt
 have h1:IntKind.u8.min=0:=by decide
 have h2:IntKind.u8.max=255:=by decide
 simp only[u8,h1,h2];omega
theorem GL(hc:fC P cx){ty:TypeId}{x:Operand}{ki:IntKind}{i:Int}(h:cX B N γ σ a w)(hd:∀k,d=some k→k<N)(hr:(kQ cx d ty (cJ σ x) i σ).run=some σ') :
  oJ P B N γ σ a w d (Instr.index ty (a.eval x) (.int ki i)) σ':=by
 have hv:=h.cJ x
 unfold kQ at hr
 split at hr
 ·rename_i s hT hx
  rw[hx] at hv
  obtain⟨b,hy,jG⟩:=b5 hr
  obtain rfl:=Option.some.inj jG
  obtain⟨h0,hy2⟩:=rP hy
  obtain⟨hval,hl⟩:=vC hv
  refine bM h hd (x:=.int .u8 (u8 b)) ?_ (mkInt (u8_in b))
  rw[hval]
  have hu:=(hc.T _ _ hT).str
  have hg:(⟨List.toArray (show List UInt8 from s)⟩:ByteArray)[i.toNat]?=some b:=by
   have:=(List.getElem?_eq_some_iff.1 hy2)
   obtain⟨q1,q2⟩:=this
   have hsz:i.toNat<(⟨List.toArray (show List UInt8 from s)⟩:ByteArray).size:=q1
   rw[getElem?_pos (⟨List.toArray (show List UInt8 from s)⟩:ByteArray) i.toNat hsz]
   exact congrArg some q2
  simp only[Instr.index,asIntOf,Sem.run_bind,Sem.run_pure,Result.andThen_ok,run_underlying hu,h0,if_true,hg]
  rfl
 ·rename_i m u n e l hT hx
  rw[hx] at hv
  obtain⟨hb,hr2⟩:=aD hr
  simp only[Bool.and_eq_true] at hb
  obtain rfl:=Ty.eq_of_beq hb.1
  obtain rfl:=Nat.eq_of_beq_eq_true hb.2
  obtain⟨y,hy,jG⟩:=b5 hr2
  obtain rfl:=Option.some.inj jG
  obtain⟨h0,hy2⟩:=rP hy
  obtain⟨eZ,k1,k2,k3⟩:=(hc.T _ _ hT).arr
  obtain⟨cs,h2,hval⟩:=dP.1 hv
  have hi:i.toNat<m:=by have:=(List.getElem?_eq_some_iff.1 hy2).1;have:=h2.1;omega
  have td:=h2.2.2 _ y hy2
  have hm:(i.toNat+1)*u.size≤m*u.size:=Nat.mul_le_mul_right _ hi
  rw[Nat.succ_mul] at hm
  have hcl:=h2.2.1
  have hp:=Ay (P:=P) (w:=w) k2 (cs:=cs.toArray) (off:=i.toNat*u.size) (by simp;omega) rR
  refine bM h hd (x:=cA u ((cs.drop (i.toNat*u.size)).take u.size)) ?_ ⟨_,td,rfl⟩
  have hi':i<(m:Int):=by omega
  rw[hval]
  show(Instr.index ty (.agg cs.toArray) (.int ki i)).run P w=_
  simp only[Instr.index,asIntOf,Sem.run_bind,Sem.run_pure,Result.andThen_ok,run_underlying k1,h0,hi',and_self,if_true,k2.sizeOf w,hp]
 ·cases hr
theorem sb0(isSlice:Bool)(len cap:Nat):(Instr.sliceBounds isSlice len cap none none none).run P w=.ok (0,len,cap) w:=by simp[Instr.sliceBounds]
theorem sbh(isSlice:Bool)(len cap:Nat)(k:IntKind){y:Int}(h0:0≤y)(h1:y≤cap):(Instr.sliceBounds isSlice len cap none (some (.int k y)) none).run P w=.ok (0,y.toNat,cap) w:=by
 have c1:(0:Int)≤y∧y≤(cap:Int):=⟨h0,h1⟩
 simp only[Instr.sliceBounds,Instr.sliceBound,asIntOf,Sem.run_bind,Sem.run_pure,Result.andThen_ok,c1,and_self,if_true]
theorem sbl(isSlice:Bool)(len cap:Nat)(k:IntKind){y:Int}(h0:0≤y)(h1:y≤len):(Instr.sliceBounds isSlice len cap (some (.int k y)) none none).run P w=.ok (y.toNat,len,cap) w:=by
 have c1:(0:Int)≤y∧y≤(len:Int):=⟨h0,h1⟩
 simp only[Instr.sliceBounds,Instr.sliceBound,asIntOf,Sem.run_bind,Sem.run_pure,Result.andThen_ok,c1,and_self,if_true]
theorem adD(isSlice:Bool)(len cap:Nat)(k k2:IntKind){y y2:Int}(h0:0≤y)(h1:y≤y2)(h2:y2≤cap):(Instr.sliceBounds isSlice len cap (some (.int k y)) (some (.int k2 y2)) none).run P w=.ok (y.toNat,y2.toNat,cap) w:=by
 have c1:(0:Int)≤y2∧y2≤(cap:Int):=⟨by omega,h2⟩
 have c2:(0:Int)≤y∧y≤((y2.toNat:Nat):Int):=⟨h0,by omega⟩
 simp only[Instr.sliceBounds,Instr.sliceBound,asIntOf,Sem.run_bind,Sem.run_pure,Result.andThen_ok,c1,and_self,if_true]
 simp only[c2,and_self,if_true,Sem.run_pure,Result.andThen_ok]
theorem oK{lo hi:Option Operand}{n:Int}{i j:Int}(h:cX B N γ σ a w)(hb:bounds σ n lo hi=some (i,j))(isSlice:Bool)(len cap:Nat)(hn:n=len)(hlc:len≤cap)(h0:0≤i)(h1:i≤j)(h2:j≤n) :
  (Instr.sliceBounds isSlice len cap (lo.map a.eval) (hi.map a.eval) none).run P w=.ok (i.toNat,j.toNat,cap) w:=by
 have Yq:∀(o:Operand) k (m:Int),cJ σ o=.data (.int k) m→a.eval o=.int k m:=fun o k m e=>by
  have:=h.cJ o
  rw[e] at this
  exact(sF this).1
 unfold bounds at hb
 cases lo with
 | none =>
   cases hi with
   | none =>
     obtain⟨rfl,rfl⟩:=Prod.mk.inj (Option.some.inj hb)
     have:=sb0 (P:=P) (w:=w) isSlice len cap
     rw[hn];simpa using this
   | some o =>
     simp only at hb
     split at hb
     ·rename_i k y hy
      obtain⟨rfl,e2⟩:=Prod.mk.inj (Option.some.inj hb)
      have e:=Yq o k _ hy
      rw[show y=j from e2] at e
      simp only[Option.map_some,Option.map_none,e]
      exact sbh isSlice len cap k h1 (by omega)
     ·cases hb
 | some o =>
   cases hi with
   | none =>
     simp only at hb
     split at hb
     ·rename_i k y hy
      obtain⟨e2,rfl⟩:=Prod.mk.inj (Option.some.inj hb)
      have e:=Yq o k _ hy
      rw[show y=i from e2] at e
      simp only[Option.map_some,Option.map_none,e]
      have:=sbl (P:=P) (w:=w) isSlice len cap k h0 (by omega)
      rw[hn];simpa using this
     ·cases hb
   | some o2 =>
     simp only at hb
     split at hb
     ·rename_i k y k2 y2 hy hy2
      obtain⟨e3,e4⟩:=Prod.mk.inj (Option.some.inj hb)
      have e:=Yq o k _ hy
      have e2:=Yq o2 k2 _ hy2
      rw[show y=i from e3] at e
      rw[show y2=j from e4] at e2
      simp only[Option.map_some,e,e2]
      exact adD isSlice len cap k k2 h0 h1 (by omega)
     ·cases hb
theorem Oy(s:List UInt8){i j:Int}(h0:0≤i)(h1:i≤j):(⟨s.toArray⟩:ByteArray).extract i.toNat j.toNat=⟨(sub s i (minus j i)).toArray⟩:=by
 have:(minus j i).toNat=j.toNat-i.toNat:=by simp only[minus];omega
 apply ByteArray.ext
 rw[ByteArray.data_extract]
 apply Array.ext'
 simp[sub,this,List.extract_eq_take_drop]
theorem Ra{α:Type}(s:List α)(i n:Int):(sub s i n).length≤s.length:=by
 simp only[sub,List.length_take,List.length_drop];omega
theorem VR{I:Nat→Nat→Prop}{e:Ty}{l:List e.den}{blk off cap i j:Nat}(h4:∀(k:Nat) (x:e.den),l[k]?=some x→∃es:List Value,es.length=e.size ∧
   (∀(q:Nat) v,es[q]?=some v→w.cell? ⟨blk,off+k*e.size+q,none⟩=some v∧I blk (off+k*e.size+q))∧bG w I e x es) (h1:i≤j) (h2:j≤l.length) (h3:l.length≤cap) (h5:cap≤maxLen) (base:Option Addr)
  (hb:base=some ⟨blk,off+i*e.size,none⟩∨(i=cap∧base=some ⟨blk,off,none⟩)) :
  bG w I (.slice e) ((l.drop i).take (j-i)) [.slice base (j-i) (cap-i)]:=by
 have hlen:((l.drop i).take (j-i)).length=j-i:=by simp;omega
 rcases hb with rfl|⟨rfl,rfl⟩
 ·refine .inr ⟨blk,off+i*e.size,cap-i,?_,?_,by omega,fun k x hk=>?_⟩
  ·show [Value.slice _ (j-i) _]=[Value.slice _ (List.length (α:=e.den) ((l.drop i).take (j-i))) _]
   rw[hlen]
  ·show List.length (α:=e.den) ((l.drop i).take (j-i))≤_
   rw[hlen];omega
  ·have hk':((l.drop i).take (j-i))[k]?=some x:=hk
   rw[List.getElem?_take] at hk'
   split at hk'
   ·rw[List.getElem?_drop] at hk'
    obtain⟨es,g1,g2,g3⟩:=h4 _ x hk'
    refine⟨es,g1,fun q v hq=>?_,g3⟩
    have:=g2 q v hq
    rw[Nat.add_mul,←Nat.add_assoc] at this
    exact this
   ·cases hk'
 ·have hji:j=i:=by omega
  subst hji
  refine .inr ⟨blk,off,0,by simp,by simp,by omega,fun k x hk=>?_⟩
  have hk':((l.drop j).take (j-j))[k]?=some x:=hk
  simp at hk'
theorem sub_eq{α:Type}(l:List α){i j:Int}(h0:0≤i)(h1:i≤j):sub l i (minus j i)=(l.drop i.toNat).take (j.toNat-i.toNat):=by
 have:(minus j i).toNat=j.toNat-i.toNat:=by simp only[minus];omega
 rw[sub,this]
theorem sub_zero{α:Type}(l:List α):sub l 0 (minus 0 0)=[]:=by simp[sub,minus]
theorem Ua{I:Nat→Nat→Prop}{e:Ty}{l:List e.den}{blk off cap:Nat}{i j:Int}(h4:∀(k:Nat) (x:e.den),l[k]?=some x→∃es:List Value,es.length=e.size ∧
   (∀(q:Nat) v,es[q]?=some v→w.cell? ⟨blk,off+k*e.size+q,none⟩=some v∧I blk (off+k*e.size+q))∧bG w I e x es) (h0:0≤i) (h1:i≤j) (h2:j≤l.length) (h3:l.length≤cap) (h5:cap≤maxLen) (base:Option Addr)
  (hb:base=some ⟨blk,off+i.toNat*e.size,none⟩∨(i.toNat=cap∧base=some ⟨blk,off,none⟩)) :
  bG w I (.slice e) (sub l i (minus j i)) [.slice base (j.toNat-i.toNat) (cap-i.toNat)]:=by
 rw[sub_eq l h0 h1]
 exact VR (w:=w) h4 (by omega) (by omega) h3 h5 base hb
theorem tY.sub{base:Option Addr}{cap:Nat}(h:tY base cap)(i s:Nat):tY (if cap=i then base else base.map (·.add s)) (cap-i):=by
 rcases h with rfl|⟨blk,off,rfl⟩
 ·exact .inl (by omega)
 ·refine .inr ?_
  split
  ·exact⟨blk,off,rfl⟩
  ·exact⟨blk,off+s,by rw[Option.map_some,addr_add]⟩
theorem C6.sub{bx:bU}{b:Nat}{lo i:Int}{base:Option Addr}{cap:Nat}(h:C6 γ bx b lo base cap)(hlo:0≤lo)(h0:0≤i)(s:Nat) :
  C6 γ bx b (plus lo i) (if cap=i.toNat then base else base.map (·.add (i.toNat*s))) (cap-i.toNat):=by
 intro e hb
 have e1:lo=0:=by simp only[plus] at e;omega
 have e2:i=0:=by simp only[plus] at e;omega
 subst e1;subst e2
 rcases h rfl hb with ⟨a1,rfl,rfl⟩|⟨blk,a1,rfl⟩
 ·exact .inl ⟨a1,by simp,rfl⟩
 ·refine .inr ⟨blk,by simpa using a1,?_⟩
  split
  ·rfl
  ·simp[Addr.add]
theorem GM(hc:fC P cx){ty:TypeId}{x:Operand}{lo hi:Option Operand}(h:cX B N γ σ a w)(hd:∀k,d=some k→k<N)(hr:(kP cx d ty (cJ σ x) lo hi σ).run=some σ') :
  oJ P B N γ σ a w d (Instr.sliceAt ty (a.eval x) (lo.map a.eval) (hi.map a.eval) none) σ':=by
 have hv:=h.cJ x
 unfold kP at hr
 split at hr
 ·
  rename_i s hT hx
  rw[hx] at hv
  split at hr
  ·rename_i i j hb
   obtain⟨hin,hr2⟩:=cD hr
   obtain rfl:=Option.some.inj hr2
   obtain⟨h0,h1,h2⟩:=iF hin
   obtain⟨hval,hl⟩:=vC hv
   have hu:=(hc.T _ _ hT).str
   have Ub:=oK (P:=P) h hb false (List.length (α:=UInt8) s) (List.length (α:=UInt8) s) rfl (Nat.le_refl _) h0 h1 h2
   refine bM h hd (x:=.string ⟨(sub (α:=UInt8) s i (minus j i)).toArray⟩) ?_ (mkStr (Nat.le_trans (Ra (α:=UInt8) s _ _) hl))
   rw[hval]
   have hsz:(⟨List.toArray (α:=UInt8) s⟩:ByteArray).size=List.length (α:=UInt8) s:=rfl
   simp only[Instr.sliceAt,Instr.slice,Sem.run_bind,run_underlying hu,Result.andThen_ok,hsz,Option.isSome_none,Bool.false_eq_true,if_false]
   rw[Ub]
   simp only[Result.andThen_ok,Sem.run_pure]
   rw[Oy (show List UInt8 from s) h0 h1]
  ·cases hr
 ·
  rename_i u e l hT hx
  rw[hx] at hv
  obtain⟨Tl,kD⟩:=aD hr
  obtain rfl:=Ty.eq_of_beq Tl
  split at kD
  ·rename_i i j hb
   obtain⟨hin,hr2⟩:=cD kD
   obtain rfl:=Option.some.inj hr2
   obtain⟨h0,h1,h2⟩:=iF hin
   obtain⟨eZ,k1,k2,k3,k4⟩:=(hc.T _ _ hT).slice
   obtain⟨cs,MC,hval⟩:=dP.1 hv
   have QM:len (α:=u.den) l=(List.length (α:=u.den) l:Int):=rfl
   rcases MC with ⟨⟨VS,e1⟩,e2⟩|⟨blk,off,cap,e1,e2,e3,e4⟩
   ·have FP:a.eval x=.slice VS 0 0:=by rw[hval,e1];rfl
    have hl0:List.length (α:=u.den) l=0:=by rw[show l=([]:List u.den) from e2];rfl
    rw[QM,hl0] at h2
    have X3:i=0:=by omega
    have hj0:j=0:=by omega
    subst X3;subst hj0
    have Ub:=oK (P:=P) h hb true 0 0 (by rw[QM,hl0]) (Nat.le_refl _) h0 h1 (by rw[QM,hl0];exact h2)
    refine bM h hd (x:=.slice VS 0 0) ?_ ⟨_,.inl ⟨⟨VS,rfl⟩,?_⟩,rfl⟩
    ·rw[FP]
     simp only[Instr.sliceAt,Instr.slice,Sem.run_bind,run_underlying k1,Result.andThen_ok,Ub,k2.sizeOf w,Sem.run_pure]
     rfl
    ·exact sub_zero (α:=u.den) l
   ·have FP:a.eval x=.slice (some ⟨blk,off,none⟩) (List.length (α:=u.den) l) cap:=by rw[hval,e1];rfl
    have Ub:=oK (P:=P) h hb true (List.length (α:=u.den) l) cap QM e2 h0 h1 h2
    have hj:j.toNat≤List.length (α:=u.den) l:=by rw[QM] at h2;omega
    have hmain:=Ua (w:=w) (i:=i) (j:=j) e4 h0 h1 (by rw[QM] at h2;exact h2) e2 e3
    refine bM h hd (x:=.slice (if cap=i.toNat then some ⟨blk,off,none⟩ else some ⟨blk,off+i.toNat*u.size,none⟩) (j.toNat-i.toNat) (cap-i.toNat)) ?_
     ⟨_,hmain (if cap=i.toNat then some ⟨blk,off,none⟩ else some ⟨blk,off+i.toNat*u.size,none⟩) (by
      split
      ·rename_i hcap;exact .inr ⟨hcap.symm,rfl⟩
      ·exact .inl rfl),rfl⟩
    rw[FP]
    simp only[Instr.sliceAt,Instr.slice,Sem.run_bind,run_underlying k1,Result.andThen_ok,Ub,k2.sizeOf w,Sem.run_pure,Option.map_some,addr_add]
  ·cases kD
 ·
  rename_i u c aC lo' n hT hx
  rw[hx] at hv
  split at hr
  ·rename_i bx rS
   obtain⟨Tl,kD⟩:=aD hr
   simp only[Bool.and_eq_true] at Tl
   have bt:=Nat.eq_of_beq_eq_true Tl.1
   split at kD
   ·rename_i i j hb
    obtain⟨hin,hr2⟩:=cD kD
    obtain rfl:=Option.some.inj hr2
    obtain⟨h0,h1,h2⟩:=iF hin
    obtain⟨eZ,k1,k2,k3,k4⟩:=(hc.T _ _ hT).slice
    obtain⟨e',k,g2,g3,g4,g5,base,cap,g6,g7,g8,gF,g9⟩:=bq rS bt hv.2
    have hue:u=e':=by
     have:=Tl.2
     rw[g2] at this
     exact Ty.eq_of_beq this
    subst hue
    obtain g6:a.eval x=_:=by simpa using g6
    have Ub:=oK (P:=P) h hb true n.toNat cap (by omega) g7 h0 h1 h2
    refine bM h hd (x:=.slice (if cap=i.toNat then base else base.map (·.add (i.toNat*u.size))) (j.toNat-i.toNat) (cap-i.toNat)) ?_
     ⟨⟨_,rfl,rfl⟩,bx,rS,by omega,fun _=>⟨u,k,g2,by simp only[plus];omega,by simp only[minus];omega,by simp only[plus,minus];omega,(if cap=i.toNat then base else base.map (·.add (i.toNat*u.size))),cap-i.toNat,?_,?_,?_,⟨gF.1.sub _ _,gF.2.sub g3 h0 _⟩,?_⟩⟩
    ·rw[g6]
     simp only[Instr.sliceAt,Instr.slice,Sem.run_bind,run_underlying k1,Result.andThen_ok,Ub,k2.sizeOf w,Sem.run_pure]
    ·have:(minus j i).toNat=j.toNat-i.toNat:=by simp only[minus];omega
     rw[this]
    ·simp only[minus];omega
    ·omega
    ·rcases g9 with g9|⟨blk,c',g9,g10⟩
     ·exact .inl (by simp only[minus];omega)
     ·by_cases hcap:cap=i.toNat
      ·exact .inl (by simp only[minus];omega)
      ·refine .inr ⟨blk,c',g9,?_⟩
       rw[if_neg hcap,g10]
       have:(plus lo' i).toNat=lo'.toNat+i.toNat:=by simp only[plus];omega
       simp only[Option.map_some,addr_add,this,Nat.add_mul]
   ·cases kD
  ·cases hr
 ·
  rename_i u c aC hT hx
  rw[hx] at hv
  split at hr
  ·rename_i bx rS
   obtain⟨Tl,kD⟩:=aD hr
   simp only[Bool.and_eq_true] at Tl
   have bt:=Nat.eq_of_beq_eq_true Tl.1
   split at kD
   ·rename_i e l mH
    obtain⟨hue,hr2⟩:=aD kD
    obtain rfl:=Ty.eq_of_beq hue
    obtain⟨eZ,k1,k2,k3,k4⟩:=(hc.T _ _ hT).slice
    obtain⟨e',n',g1,g2,g3⟩:=bq rS bt hv.2
    have hrow:bx.row=some (u,List.length (α:=u.den) l):=bU.dH Tl.2 mH
    rw[hrow] at g2
    obtain⟨rfl,rfl⟩:=Prod.mk.inj (Option.some.inj g2)
    have jj:=h.ok.boxes c bx rS
    rw[cP,g1] at jj
    obtain⟨e2,l2,j1,j2,j3⟩:=jj
    have abF:∃base cap,a.eval x=.slice base (List.length (α:=u.den) l) cap∧List.length (α:=u.den) l≤cap∧cap≤maxLen∧(((cap=0∧List.length (α:=u.den) l=0)∧γ.loc c=none∧base=none)∨∃blk,γ.loc c=some (blk,cap)∧base=some ⟨blk,0,none⟩):=by
     rw[mH] at j1
     cases j1
     rcases g3 with ⟨g3,g4⟩|⟨blk,cap,g3,g4⟩
     ·obtain g4:a.eval x=_:=by simpa using g4
      rcases j3 with ⟨_,j4⟩|⟨_,_,_,_,_,j3,_⟩
      ·have hl0:List.length (α:=u.den) l=0:=by rw[j4];rfl
       exact⟨none,0,by rw[g4,hl0],by omega,Nat.zero_le _,.inl ⟨⟨rfl,hl0⟩,g3,rfl⟩⟩
      ·rw[g3] at j3;cases j3
     ·obtain g4:a.eval x=_:=by simpa using g4
      rcases j3 with ⟨j3,_⟩|⟨dF,cap',cur,tid,fr,q1,q2,q3,iq,q4,q5,q6,q7⟩
      ·rw[g3] at j3;cases j3
      ·rw[g3] at q1
       obtain⟨rfl,rfl⟩:=Prod.mk.inj (Option.some.inj q1)
       exact⟨_,cap,g4,q4,q5,.inr ⟨blk,g3,rfl⟩⟩
    obtain⟨base,cap,m1,m2,m3,m4⟩:=abF
    have hF:tY base cap:=by
     rcases m4 with ⟨⟨q2,_⟩,_⟩|⟨blk,q1,q2⟩
     ·exact .inl q2
     ·exact .inr ⟨blk,0,q2⟩
    have hZ:C6 γ bx c 0 base cap:=fun _ _=>by
     rcases m4 with ⟨⟨q2,_⟩,q3,q4⟩|⟨blk,q1,q2⟩
     ·exact .inl ⟨q3,q4,q2⟩
     ·exact .inr ⟨blk,q1,q2⟩
    have Tm:∀{i j:Int},bounds σ (len (α:=u.den) l) lo hi=some (i,j)→0≤i→i≤j→j≤len (α:=u.den) l →
      (Instr.sliceAt ty (a.eval x) (lo.map a.eval) (hi.map a.eval) none).run P w=.ok (.slice (if cap=i.toNat then base else base.map (·.add (i.toNat*u.size))) (j.toNat-i.toNat) (cap-i.toNat)) w:=by
     intro i j hb h0 h1 h2
     have Ub:=oK (P:=P) h hb true (List.length (α:=u.den) l) cap rfl m2 h0 h1 h2
     rw[m1]
     simp only[Instr.sliceAt,Instr.slice,Sem.run_bind,run_underlying k1,Result.andThen_ok,Ub,k2.sizeOf w,Sem.run_pure]
    split at hr2
    ·obtain rfl:=Option.some.inj hr2
     have:=Tm (i:=0) (j:=len (α:=u.den) l) rfl (by omega) (by simp only[len];omega) (by omega)
     have hjl:(len (α:=u.den) l).toNat=List.length (α:=u.den) l:=by simp[len]
     rw[hjl] at this
     refine bM h hd (x:=a.eval x) ?_ hv
     rw[this,m1]
     congr 1
     have:(base.map (·.add ((0:Int).toNat*u.size)))=base:=by cases base<;>simp[Addr.add]
     rw[this];simp
    ·split at hr2
     ·rename_i i j hb
      obtain⟨hin,jG⟩:=cD hr2
      obtain rfl:=Option.some.inj jG
      obtain⟨h0,h1,h2⟩:=iF hin
      have QM:len (α:=u.den) l=(List.length (α:=u.den) l:Int):=rfl
      rw[QM] at h2
      refine bM h hd (Tm hb h0 h1 h2)
       ⟨⟨_,rfl,rfl⟩,bx,rS,by omega,fun _=>⟨u,_,hrow,h0,by simp only[minus];omega,by simp only[minus];omega,(if cap=i.toNat then base else base.map (·.add (i.toNat*u.size))),cap-i.toNat,?_,?_,?_,⟨hF.sub _ _,by have:=hZ.sub (Int.le_refl 0) h0 u.size;rwa [show plus 0 i=i by simp[plus]] at this⟩,?_⟩⟩
      ·have:(minus j i).toNat=j.toNat-i.toNat:=by simp only[minus];omega
       rw[this]
      ·simp only[minus];omega
      ·omega
      ·by_cases hcap:cap=i.toNat
       ·exact .inl (by simp only[minus];omega)
       ·rcases m4 with ⟨q1,q3⟩|⟨blk,q1,q2⟩
        ·exact .inl (by simp only[minus];omega)
        ·refine .inr ⟨blk,cap,q1,?_⟩
         rw[if_neg hcap,q2]
         simp only[Option.map_some,addr_add,Nat.zero_add]
     ·cases hr2
   ·cases kD
  ·cases hr
 ·
  rename_i m u c aC s q hT hx
  rw[hx] at hv
  obtain⟨hlm,kD⟩:=aD hr
  simp only[Bool.and_eq_true] at hlm
  obtain⟨bx,rS,bt⟩:=kS hlm.1
  have adF:=Nat.le_of_ble_eq_true hlm.2
  split at kD
  ·rename_i i j hb
   obtain⟨hin,jG⟩:=cD kD
   obtain rfl:=Option.some.inj jG
   obtain⟨h0,h1,h2⟩:=iF hin
   obtain⟨eZ,k1,k2,k3⟩:=(hc.T _ _ hT).arr
   obtain⟨blk,cap,hl,hval⟩:=bq rS bt hv.2
   obtain hval:a.eval x=.pointer (some ⟨blk,cQ (s::q),none⟩):=by simpa using hval
   have Ub:=oK (P:=P) h hb false m m rfl (Nat.le_refl _) h0 h1 h2
   refine bM h hd (x:=.slice (some (if m=i.toNat then⟨blk,cQ (s::q),none⟩ else(⟨blk,cQ (s::q),none⟩:Addr).add (i.toNat*u.size))) (j.toNat-i.toNat) (m-i.toNat)) ?_
    ⟨⟨_,rfl,rfl⟩,bx,rS,by omega,fun _=>⟨by simp,blk,cap,hl,h0,by simp only[minus];omega,by simp only[minus];omega,some (if m=i.toNat then⟨blk,cQ (s::q),none⟩ else(⟨blk,cQ (s::q),none⟩:Addr).add (i.toNat*u.size)),m-i.toNat,?_,?_,?_⟩⟩
   ·rw[hval]
    simp only[Instr.sliceAt,Sem.run_bind,run_underlying k1,Result.andThen_ok,Instr.sureAddr,Sem.run_pure,Ub,k2.sizeOf w]
   ·have:(minus j i).toNat=j.toNat-i.toNat:=by simp only[minus];omega
    rw[this]
   ·simp only[minus];omega
   ·by_cases hcap:m=i.toNat
    ·exact .inl (by simp only[minus];omega)
    ·refine .inr ?_
     rw[if_neg hcap]
     simp only[addr_add]
  ·cases kD
 ·
  rename_i m u c aC hT hx
  rw[hx] at hv
  split at hr
  ·rename_i bx rS
   obtain⟨Tl,kD⟩:=aD hr
   simp only[Bool.and_eq_true,Bool.not_eq_true'] at Tl
   have bt:=Nat.eq_of_beq_eq_true Tl.1
   split at kD
   ·rename_i n e l mH
    obtain⟨hq,hr2⟩:=aD kD
    simp only[Bool.and_eq_true] at hq
    obtain rfl:=Nat.eq_of_beq_eq_true hq.1.1
    obtain rfl:=Ty.eq_of_beq hq.1.2
    have adF:=Nat.le_of_ble_eq_true hq.2
    split at hr2
    ·rename_i i j hb
     obtain⟨hin,jG⟩:=cD hr2
     obtain rfl:=Option.some.inj jG
     obtain⟨h0,h1,h2⟩:=iF hin
     obtain⟨eZ,k1,k2,k3⟩:=(hc.T _ _ hT).arr
     obtain⟨blk,cap,hl,hval⟩:=bq rS bt hv.2
     obtain hval:a.eval x=.pointer (some ⟨blk,0,none⟩):=by simpa [cQ] using hval
     have Ub:=oK (P:=P) h hb false m m rfl (Nat.le_refl _) h0 h1 h2
     have hF:tY (some (if m=i.toNat then⟨blk,0,none⟩ else(⟨blk,0,none⟩:Addr).add (i.toNat*u.size))) (m-i.toNat):=by
      refine .inr ?_
      split
      ·exact⟨blk,0,rfl⟩
      ·exact⟨blk,0+i.toNat*u.size,by rw[addr_add]⟩
     refine bM h hd (x:=.slice (some (if m=i.toNat then⟨blk,0,none⟩ else(⟨blk,0,none⟩:Addr).add (i.toNat*u.size))) (j.toNat-i.toNat) (m-i.toNat)) ?_
      ⟨⟨_,rfl,rfl⟩,bx,rS,by omega,fun _=>⟨u,m,bU.pR Tl.2 mH,h0,by simp only[minus];omega,by simp only[minus];omega,some (if m=i.toNat then⟨blk,0,none⟩ else(⟨blk,0,none⟩:Addr).add (i.toNat*u.size)),m-i.toNat,?_,?_,?_,⟨hF,fun _ hb=>by rw[Tl.2] at hb;cases hb⟩,?_⟩⟩
     ·rw[hval]
      simp only[Instr.sliceAt,Sem.run_bind,run_underlying k1,Result.andThen_ok,Instr.sureAddr,Sem.run_pure,Ub,k2.sizeOf w]
     ·have:(minus j i).toNat=j.toNat-i.toNat:=by simp only[minus];omega
      rw[this]
     ·simp only[minus];omega
     ·simp only[maxLen];omega
     ·by_cases hcap:m=i.toNat
      ·exact .inl (by simp only[minus];omega)
      ·refine .inr ⟨blk,cap,hl,?_⟩
       rw[if_neg hcap]
       simp only[addr_add,Nat.zero_add]
    ·cases hr2
   ·cases kD
  ·cases hr
 ·cases hr
end
end Go.Ge
namespace Go.Ge
set_option linter.unusedVariables false
set_option linter.unusedSimpArgs false
open RowKit
section
variable {P:Program} {B:qz} {N:Nat} {γ:Gh} {σ σ':St} {a:Act} {w:World} {d:Option Nat} {cx:Ctx}
theorem bG.flat{w w':World}{I I':Nat→Nat→Prop}:∀{t:Ty} {x:t.den} {cs:List Value},t.flat=true→bG w I t x cs→bG w' I' t x cs:=by
 intro t
 induction t with
 | int k=>intro x cs _ h;exact h
 | bool=>intro x cs _ h;exact h
 | str=>intro x cs _ h;exact h
 | slice e ih=>intro x cs hf;cases hf
 | arr n e ih=>intro x cs hf h;exact⟨h.1,h.2.1,fun i y hy=>ih hf (h.2.2 i y hy)⟩
 | pair a b jE nr =>
   intro x cs hf h
   simp only[Ty.flat,Bool.and_eq_true] at hf
   obtain⟨c1,c2,h0,h1,h2⟩:=h
   exact⟨c1,c2,h0,jE hf.1 h1,nr hf.2 h2⟩
 | unit=>intro x cs _ h;exact h
 | alt u a r jE ihr =>
   intro x cs hf h
   simp only[Ty.flat,Bool.and_eq_true] at hf
   rcases x with y|z
   ·obtain⟨h1,c,h2,h3⟩:=h
    exact⟨h1,c,h2,jE hf.1 h3⟩
   ·exact ihr hf.2 (show bG w I r z cs from h)
 | AV=>intro x cs _ h;exact h
def zh(w:World)(I:Nat→Nat→Prop)(e:Ty)(l:List e.den)(v:Value):Prop :=
 (l=[]∧∃base cap,v=.slice base 0 cap∧cap≤maxLen∧tY base cap) ∨
 ∃blk off cap,v=.slice (some ⟨blk,off,none⟩) l.length cap∧l.length≤cap∧cap≤maxLen ∧
  ∀(i:Nat) (x:e.den),l[i]?=some x→∃es:List Value,es.length=e.size ∧
   (∀(j:Nat) c,es[j]?=some c→w.cell? ⟨blk,off+i*e.size+j,none⟩=some c)∧bG w I e x es
theorem xI{I:Nat→Nat→Prop}{e:Ty}{l:List e.den}{blk:Nat}{cur:Array Value}{tid:TypeId}{fr:Nat×Nat}(hg:w.heap[blk]?=some (.cells cur tid fr)){n:Nat}(hn:n*e.size≤cur.size)
  (h:∀(i:Nat) (x:e.den),l[i]?=some x→bG w I e x ((cur.toList.drop (i*e.size)).take e.size)) (hl:l.length≤n) (lo:Nat) :
  ∀(i:Nat) (x:e.den),(l.drop lo)[i]?=some x→∃es:List Value,es.length=e.size ∧
   (∀(j:Nat) c,es[j]?=some c→w.cell? ⟨blk,lo*e.size+i*e.size+j,none⟩=some c)∧bG w I e x es:=by
 intro i x hx
 rw[List.getElem?_drop] at hx
 have hr:=h _ x hx
 have hlt:=(List.getElem?_eq_some_iff.1 hx).1
 refine⟨_,hr.length,fun j c hj=>?_,hr⟩
 rw[cell_of_heap hg]
 rw[List.getElem?_take] at hj
 split at hj
 ·rw[List.getElem?_drop] at hj
  rw[←Nat.add_mul];simpa using hj
 ·cases hj
theorem cP.row{b:Nat}{bx:bU}{mem:Nat→Option bU}(h:cP γ mem w b bx){blk cap:Nat}(hl:γ.loc b=some (blk,cap)) :
  (∀(e:Ty) (l:List e.den),bx.buf=true→bx.val=.data (.slice e) l→∃cur tid fr,w.heap[blk]?=some (.cells cur tid fr)∧ld cur fr∧l.length≤cap∧cap≤maxLen∧cur.size=cap*e.size∧0<e.size ∧
   ∀(i:Nat) (x:e.den),l[i]?=some x→bG w γ.I e x ((cur.toList.drop (i*e.size)).take e.size)) ∧
  (∀(n:Nat) (e:Ty) (l:List e.den),bx.buf=false→bx.val=.data (.arr n e) l→∃cur tid fr,w.heap[blk]?=some (.cells cur tid fr)∧ld cur fr∧l.length=n∧cur.size=n*e.size ∧
   ∀(i:Nat) (x:e.den),l[i]?=some x→bG w γ.I e x ((cur.toList.drop (i*e.size)).take e.size)):=by
 refine⟨fun e l hb hv=>?_,fun n e l hb hv=>?_⟩
 ·rw[cP,hb] at h
  obtain⟨e',l',h1,h2,h3⟩:=h
  rw[hv] at h1
  cases h1
  rcases h3 with ⟨h3,_⟩|⟨dF,cap',cur,tid,fr,q1,q2,q3,iq,q4,q5,q6,q7⟩
  ·rw[hl] at h3;cases h3
  ·rw[hl] at q1
   obtain⟨rfl,rfl⟩:=Prod.mk.inj (Option.some.inj q1)
   exact⟨cur,tid,fr,q2,q3.th,q4,q5,q6,h2,q7⟩
 ·rw[cP,hb] at h
  obtain⟨dF,cap',cur,tid,fr,q1,q2,q3,iq,q4⟩:=h
  rw[hl] at q1
  obtain⟨rfl,rfl⟩:=Prod.mk.inj (Option.some.inj q1)
  rw[hv] at q4
  obtain⟨r1,r2,r3⟩:=q4
  exact⟨cur,tid,fr,q2,q3,r1,by simpa using r2,r3⟩
theorem Dd{u e:Ty}{l:List u.den}{m:List e.den}(h:toL u e l=some m):∃q:u=e,m=q▸l:=ku h
theorem lR{e:Ty}{v:aS}{l:List e.den}(hl:fV e σ v=some l) :
  v=.data (.slice e) l∨(v=.nH∧l=[])∨(∃b aC bx,v=.whole b aC∧σ.mem b=some bx∧bx.aC=aC∧bx.buf=true∧bx.val=.data (.slice e) l) ∨
  ∃b aC lo n bx,v=.part b aC lo n∧σ.mem b=some bx∧bx.aC=aC∧((bx.buf=true∧∃l0:List e.den,bx.val=.data (.slice e) l0∧l=sub l0 lo n)∨(bx.buf=false∧∃(k:Nat) (l0:List e.den),bx.val=.data (.arr k e) l0∧l=sub l0 lo n)):=by
 unfold fV at hl
 split at hl
 ·obtain⟨q,rfl⟩:=Dd hl
  subst q;exact .inl rfl
 ·exact .inr (.inl ⟨rfl,(Option.some.inj hl).symm⟩)
 ·rename_i b aC
  split at hl
  ·rename_i bx hb
   cases hc:(Nat.beq bx.aC aC&&bx.buf) with
   | false=>rw[hc,cond_false] at hl;exact absurd hl (by simp)
   | true =>
     rw[hc,cond_true] at hl
     simp only[Bool.and_eq_true] at hc
     split at hl
     ·rename_i u l0 mH
      obtain⟨q,rfl⟩:=Dd hl
      subst q
      exact .inr (.inr (.inl ⟨b,aC,bx,rfl,hb,Nat.eq_of_beq_eq_true hc.1,hc.2,mH⟩))
     ·exact absurd hl (by simp)
  ·exact absurd hl (by simp)
 ·rename_i b aC lo n
  split at hl
  ·rename_i bx hb
   cases hc:Nat.beq bx.aC aC with
   | false=>rw[hc,cond_false] at hl;exact absurd hl (by simp)
   | true =>
     rw[hc,cond_true] at hl
     split at hl
     ·rename_i u l0 bK mH
      obtain⟨q,rfl⟩:=Dd hl
      subst q
      exact .inr (.inr (.inr ⟨b,aC,lo,n,bx,rfl,hb,Nat.eq_of_beq_eq_true hc,.inl ⟨bK,l0,mH,rfl⟩⟩))
     ·rename_i k0 u l0 bK mH
      obtain⟨q,rfl⟩:=Dd hl
      subst q
      exact .inr (.inr (.inr ⟨b,aC,lo,n,bx,rfl,hb,Nat.eq_of_beq_eq_true hc,.inr ⟨bK,k0,l0,mH,rfl⟩⟩))
     ·exact absurd hl (by simp)
  ·exact absurd hl (by simp)
 ·exact absurd hl (by simp)
theorem HB{α:Type}{l:List α}{lo n:Int}(h0:0≤lo)(h1:0≤n)(h2:lo+n≤l.length):(sub l lo n).length=n.toNat:=by
 simp only[sub,List.length_take,List.length_drop];omega
theorem qF(hm:bE B γ σ.mem w){e:Ty}{v:aS}{val:Value}{l:List e.den}(hv:cw γ σ.mem w v .val [val])(hl:fV e σ v=some l):zh w γ.I e l val:=by
 rcases lR hl with rfl|⟨rfl,rfl⟩|⟨b,aC,bx,rfl,hb,bt,bK,mH⟩|⟨b,aC,lo,n,bx,rfl,hb,bt,Hv⟩
 ·obtain⟨cs,h1,hval⟩:=dP.1 hv
  rcases h1 with ⟨⟨base,h1⟩,h2⟩|⟨blk,off,cap,h1,h2,h3,h4⟩
  ·exact .inl ⟨h2,base,0,by rw[hval,h1];rfl,Nat.zero_le _,.inl rfl⟩
  ·refine .inr ⟨blk,off,cap,by rw[hval,h1];rfl,h2,h3,fun i x hx=>?_⟩
   obtain⟨es,g1,g2,g3⟩:=h4 i x hx
   exact⟨es,g1,fun j c hj=>(g2 j c hj).1,g3⟩
 ·obtain rfl:val=_:=by simpa [cw] using hv
  exact .inl ⟨rfl,none,0,rfl,Nat.zero_le _,.inl rfl⟩
 ·obtain⟨e',n',g1,g2,g3⟩:=bq hb bt hv.2
  rw[bU.dH g1 mH] at g2
  obtain⟨rfl,rfl⟩:=Prod.mk.inj (Option.some.inj g2)
  rcases g3 with ⟨g3,g4⟩|⟨blk,cap,g3,g4⟩
  ·obtain rfl:val=_:=by simpa using g4
   have jj:=hm.boxes b bx hb
   rw[cP,g1] at jj
   obtain⟨e2,l2,j1,j2,j3⟩:=jj
   rw[mH] at j1
   cases j1
   rcases j3 with ⟨_,j4⟩|⟨_,_,_,_,_,j3,_⟩
   ·exact .inl ⟨j4,none,0,rfl,Nat.zero_le _,.inl rfl⟩
   ·rw[g3] at j3;exact absurd j3 (by simp)
  ·obtain rfl:val=_:=by simpa using g4
   obtain⟨cur,tid,fr,q1,q2,q3,q4,q5,q6,q7⟩:=((hm.boxes b bx hb).row g3).1 _ l g1 mH
   refine .inr ⟨blk,0,cap,rfl,q3,q4,fun i x hx=>?_⟩
   have:=xI q1 (n:=cap) (by omega) q7 q3 0 i x hx
   rw[Nat.zero_mul] at this;exact this
 ·obtain⟨e',k,g2,g3,g4,g5,base,cap,g6,g7,g8,gF,g9⟩:=bq hb bt hv.2
  obtain rfl:val=_:=by simpa using g6
  rcases Hv with ⟨bK,l0,mH,rfl⟩|⟨bK,k0,l0,mH,rfl⟩
  ·rw[bU.dH bK mH] at g2
   obtain⟨rfl,rfl⟩:=Prod.mk.inj (Option.some.inj g2)
   have hlen:=HB g3 g4 g5
   rcases g9 with g9|⟨blk,c,g9,g10⟩
   ·subst g9
    exact .inl ⟨by simp[sub],base,cap,rfl,g8,gF.1⟩
   ·obtain⟨cur,tid,fr,q1,q2,q3,q4,q5,q6,q7⟩:=((hm.boxes b bx hb).row g9).1 _ l0 bK mH
    refine .inr ⟨blk,lo.toNat*e.size,cap,by rw[g10,hlen],by rw[hlen];exact g7,g8,fun i x hx=>?_⟩
    have hx':((List.drop lo.toNat l0).take n.toNat)[i]?=some x:=hx
    rw[List.getElem?_take] at hx'
    split at hx'
    ·exact xI q1 (n:=c) (by omega) q7 q3 lo.toNat i x hx'
    ·exact absurd hx' (by simp)
  ·rw[bU.pR bK mH] at g2
   obtain⟨rfl,rfl⟩:=Prod.mk.inj (Option.some.inj g2)
   rcases g9 with g9|⟨blk,c,g9,g10⟩
   ·subst g9
    exact .inl ⟨by simp[sub],base,cap,rfl,g8,gF.1⟩
   ·obtain⟨cur,tid,fr,q1,q2,q3,q5,q7⟩:=((hm.boxes b bx hb).row g9).2 _ _ l0 bK mH
    have hlen:=HB (l:=l0) g3 g4 (by rw[q3];exact g5)
    refine .inr ⟨blk,lo.toNat*e.size,cap,by rw[g10,hlen],by rw[hlen];exact g7,g8,fun i x hx=>?_⟩
    have hx':((List.drop lo.toNat l0).take n.toNat)[i]?=some x:=hx
    rw[List.getElem?_take] at hx'
    split at hx'
    ·exact xI q1 (n:=k0) (by omega) q7 (by omega) lo.toNat i x hx'
    ·exact absurd hx' (by simp)
theorem Ch{I:Nat→Nat→Prop}{e:Ty}{blk:Nat}:∀{l:List e.den} {off:Nat},(∀(i:Nat) (x:e.den),l[i]?=some x→∃es:List Value,es.length=e.size ∧
   (∀(j:Nat) c,es[j]?=some c→w.cell? ⟨blk,off+i*e.size+j,none⟩=some c)∧bG w I e x es) →
  ∃news:List Value,news.length=l.length*e.size∧(∀(j:Nat) c,news[j]?=some c→w.cell? ⟨blk,off+j,none⟩=some c)∧(∀c∈news,c.oneCell'=true) ∧
   ∀(i:Nat) (x:e.den),l[i]?=some x→bG w I e x ((news.drop (i*e.size)).take e.size):=by
 intro l
 induction l with
 | nil=>intro off h;exact⟨[],by simp,by simp,by simp,by simp⟩
 | cons x0 r ih =>
   intro off h
   obtain⟨es,g1,g2,g3⟩:=h 0 x0 rfl
   obtain⟨news,k1,k2,k3,k4⟩:=ih (off:=off+e.size) fun i x hx=>by
    obtain⟨es',a1,a2,a3⟩:=h (i+1) x (by simpa using hx)
    refine⟨es',a1,fun j c hj=>?_,a3⟩
    have:=a2 j c hj
    rw[Nat.succ_mul] at this
    rw[←this];congr 2;omega
   refine⟨es++news,by rw[List.length_append,g1,k1,List.length_cons,Nat.succ_mul];omega,fun j c hj=>?_,fun c hc=>?_,fun i x hx=>?_⟩
   ·rw[List.getElem?_append] at hj
    split at hj
    ·have:=g2 j c hj
     simpa using this
    ·rename_i hlt
     have:=k2 _ c hj
     rw[←this];congr 2;omega
   ·rcases List.mem_append.1 hc with hc|hc
    ·exact g3.one c hc
    ·exact k3 c hc
   ·cases i with
    | zero =>
      obtain rfl:x0=x:=by simpa using hx
      rw[Nat.zero_mul,List.drop_zero,←g1,List.take_left];exact g3
    | succ i =>
      have hx':r[i]?=some x:=by simpa using hx
      rw[Nat.succ_mul,Nat.add_comm,←List.drop_drop,←g1,List.drop_left,g1]
      exact k4 i x hx'
theorem De(h:cX B N γ σ a w){b:Nat}{bx:bU}{e:Ty}{n:Nat}(hb:σ.mem b=some bx)(hrow:bx.row=some (e,n))(hf:freeze σ b=some σ') :
  ∃γ',cX B N γ' σ' a w∧Ext B γ σ.mem w γ' σ'.mem w∧γ'.loc=γ.loc∧∀blk k off,γ.loc b=some (blk,k)→off<n*e.size→γ'.I blk off:=by
 obtain⟨m1,m2⟩:=h.ok.freeze hb hrow
 have e1:σ'={ slots:=σ.slots,mem:=cE σ.mem b { bx with ro:=true } }:=by
  unfold freeze at hf
  rw[hb] at hf
  cases hro:bx.ro with
  | true =>
    simp only[hro,cond_true,Option.some.injEq] at hf
    subst hf
    have:cE σ.mem b { bx with ro:=true }=σ.mem:=by
     funext c
     by_cases e:c=b
     ·subst e;rw[bA,hb];congr 1;cases bx;simp only at hro;subst hro;rfl
     ·rw[aP _ e]
    rw[this]
  | false =>
    simp only[hro,cond_false] at hf
    cases hlk:bx.lk with
    | true=>simp[hlk] at hf
    | false=>simp only[hlk,cond_false,Option.some.injEq] at hf;subst hf;rfl
 subst e1
 exact⟨_,h.go m2 m1,m2,rfl,fun blk k off hl ho=>.inr ⟨⟨k,hl⟩,ho⟩⟩
theorem zh.data{γ':Gh}{e:Ty}{l:List e.den}{val:Value}(h:zh w γ.I e l val)(hI:∀b o,γ.I b o→γ'.I b o)
  (hc:∀blk off cap,val=.slice (some ⟨blk,off,none⟩) l.length cap→∀j,j<l.length*e.size→γ'.I blk (off+j)):bG w γ'.I (.slice e) l [val]:=by
 rcases h with ⟨rfl,base,cap,r1,r2,r3⟩|⟨blk,off,cap,r1,r2,r3,r4⟩
 ·rcases r3 with rfl|⟨blk,off,rfl⟩
  ·exact .inl ⟨⟨base,by rw[r1]⟩,rfl⟩
  ·exact .inr ⟨blk,off,cap,by rw[r1];rfl,Nat.zero_le _,r2,fun i x hx=>by cases hx⟩
 ·refine .inr ⟨blk,off,cap,by rw[r1],r2,r3,fun i x hx=>?_⟩
  obtain⟨es,g1,g2,g3⟩:=r4 i x hx
  have hi:i<l.length:=(List.getElem?_eq_some_iff.1 hx).1
  refine⟨es,g1,fun j c hj=>⟨g2 j c hj,?_⟩,bG.mono hI (fun _ _ _=>rfl) g3⟩
  have hj':j<e.size:=by have:=(List.getElem?_eq_some_iff.1 hj).1;omega
  have:(i+1)*e.size≤l.length*e.size:=Nat.mul_le_mul_right _ hi
  rw[Nat.succ_mul] at this
  rw[Nat.add_assoc]
  exact hc blk off cap r1 _ (by omega)
theorem Df(h:cX B N γ σ a w){e:Ty}{v:aS}{val:Value}{l:List e.den}(hv:cw γ σ.mem w v .val [val])(hl:fV e σ v=some l)(hf:gb σ v=some σ') :
  ∃γ',cX B N γ' σ' a w∧Ext B γ σ.mem w γ' σ'.mem w∧bG w γ'.I (.slice e) l [val]:=by
 have hrow:=qF h.ok hv hl
 rcases lR hl with rfl|⟨rfl,rfl⟩|⟨b,aC,bx,rfl,hb,bt,bK,mH⟩|⟨b,aC,lo,n,bx,rfl,hb,bt,Hv⟩
 ·obtain rfl:=Option.some.inj hf
  obtain⟨cs,h1,hval⟩:=dP.1 hv
  have:cs=[val]:=by
   obtain⟨c,rfl⟩:=List.length_eq_one_iff.1 h1.length
   rw[hval];rfl
  exact⟨γ,h,Ext.refl _ _ _ _,by rw[←this];exact h1⟩
 ·obtain rfl:=Option.some.inj hf
  obtain rfl:val=_:=by simpa [cw] using hv
  exact⟨γ,h,Ext.refl _ _ _ _,.inl ⟨⟨none,rfl⟩,rfl⟩⟩
 ·obtain⟨γ',s1,s2,s3,s4⟩:=De h hb (bU.dH bK mH) hf
  refine⟨γ',s1,s2,hrow.data s2.I fun blk off cap hval j hj=>?_⟩
  obtain⟨e',n',g1,g2,g3⟩:=bq hb bt hv.2
  rcases g3 with ⟨g3,g4⟩|⟨dF,cap',g3,g4⟩
  ·obtain rfl:val=_:=by simpa using g4
   injection hval with q1 q2 q3
   rw[←q2,Nat.zero_mul] at hj
   omega
  ·obtain rfl:val=_:=by simpa using g4
   injection hval with q1 q2 q3
   injection q1 with q1
   injection q1 with q1 q4
   subst q1;subst q4
   rw[Nat.zero_add];exact s4 dF cap' j g3 hj
 ·obtain⟨e',k,g2,g3,g4,g5,base,cap,g6,g7,g8,gF,g9⟩:=bq hb bt hv.2
  obtain rfl:val=_:=by simpa using g6
  have hlk:e=e'∧l.length=n.toNat:=by
   rcases Hv with ⟨bK,l0,mH,rfl⟩|⟨bK,k0,l0,mH,rfl⟩
   ·rw[bU.dH bK mH] at g2
    obtain⟨rfl,rfl⟩:=Prod.mk.inj (Option.some.inj g2)
    exact⟨rfl,HB g3 g4 g5⟩
   ·rw[bU.pR bK mH] at g2
    obtain⟨rfl,rfl⟩:=Prod.mk.inj (Option.some.inj g2)
    rcases g9 with g9|⟨blk,c,g9,g10⟩
    ·subst g9;exact⟨rfl,by simp[sub]⟩
    ·obtain⟨cur,tid,fr,q1,q2,q3,q5,q7⟩:=((h.ok.boxes b bx hb).row g9).2 _ _ l0 bK mH
     exact⟨rfl,HB g3 g4 (by rw[q3];exact g5)⟩
  obtain⟨rfl,hlen⟩:=hlk
  obtain⟨γ',s1,s2,s3,s4⟩:=De h hb g2 hf
  refine⟨γ',s1,s2,hrow.data s2.I fun blk off cap' hval j hj=>?_⟩
  rcases g9 with g9|⟨dF,c,g9,g10⟩
  ·rw[hlen,g9] at hj;simp at hj
  ·injection hval with q1 q2 q3
   rw[g10] at q1
   injection q1 with q1
   injection q1 with q1 q4
   subst q1;subst q4
   refine s4 dF c _ g9 ?_
   have:(lo.toNat+n.toNat)*e.size≤k*e.size:=Nat.mul_le_mul_right _ (by omega)
   rw[Nat.add_mul] at this
   rw[hlen] at hj
   omega
theorem Bq{e:Ty}{v:aS}{l:List e.den}{b:Nat}(h:fV e σ v=some l)(hf:freeze σ b=some σ'):fV e σ' v=some l:=by
 have hm:∀c bx,σ.mem c=some bx→∃r,σ'.mem c=some { bx with ro:=r }:=by
  intro c bx hc
  unfold freeze at hf
  split at hf
  ·rename_i dh hb0
   cases hro:dh.ro with
   | true=>simp only[hro,cond_true,Option.some.injEq] at hf;subst hf;exact⟨bx.ro,hc⟩
   | false =>
     cases hlk:dh.lk with
     | true=>simp[hro,hlk] at hf
     | false =>
       simp only[hro,hlk,cond_false,Option.some.injEq] at hf
       subst hf
       by_cases e:c=b
       ·subst e
        rw[hb0] at hc
        obtain rfl:=Option.some.inj hc
        exact⟨true,by simp[St.cr,hlk]⟩
       ·exact⟨bx.ro,by simp[St.cr,gK e,hc]⟩
  ·cases hf
 rcases lR h with rfl|⟨rfl,rfl⟩|⟨c,aC,bx,rfl,hb,bt,bK,mH⟩|⟨c,aC,lo,n,bx,rfl,hb,bt,Hv⟩
 ·exact h
 ·rfl
 ·obtain⟨r,hr⟩:=hm c bx hb
  simp only[fV,hr,bt,bK,mH,Nat.beq_refl,Bool.and_self,cond_true]
  simp[toL,Ty.beq_refl]
 ·obtain⟨r,hr⟩:=hm c bx hb
  rcases Hv with ⟨bK,l0,mH,rfl⟩|⟨bK,k0,l0,mH,rfl⟩
  ·simp only[fV,hr,bt,bK,mH,Nat.beq_refl,cond_true]
   simp[toL,Ty.beq_refl]
  ·simp only[fV,hr,bt,bK,mH,Nat.beq_refl,cond_true]
   simp[toL,Ty.beq_refl]
theorem Dg{s r:Ty}{p q:aS}{x:(Ty.pair s r).den}(h:qx σ (.pair s r) (.mix p q)=some x):∃(y:s.den) (z:r.den),qx σ s p=some y∧qx σ r q=some z∧x=(y,z):=by
 replace h:(match qx σ s p,qx σ r q with
  | some x,some y=>some ((x,y):(Ty.pair s r).den)
  | _,_=>none)=some x:=h
 split at h
 ·rename_i y z h1 h2
  exact⟨y,z,h1,h2,(Option.some.inj h).symm⟩
 ·exact absurd h (by simp)
theorem Lu{s r:Ty}{p q:aS}{y:s.den}{z:r.den}(h1:qx σ s p=some y)(h2:qx σ r q=some z):qx σ (.pair s r) (.mix p q)=some ((y,z):(Ty.pair s r).den):=by
 show(match qx σ s p,qx σ r q with
  | some x,some y=>some ((x,y):(Ty.pair s r).den)
  | _,_=>none)=some (y,z)
 rw[h1,h2]
theorem uT{p q:aS}(h:gb σ (.mix p q)=some σ'):∃σ1,gb σ p=some σ1∧gb σ1 q=some σ':=by
 unfold gb at h
 split at h
 ·rename_i σ1 h1;exact⟨σ1,h1,h⟩
 ·exact absurd h (by simp)
theorem oQ{t:Ty}:∀{x:t.den},qx σ t .rO=some x→(∀w I,bG w I t x [.nilIface])∧(∀τ:St,qx τ t .rO=some x)∧cA t [.nilIface]=.nilIface∧t.isAgg=false:=by
 induction t with
 | alt u a r jE ihr =>
   intro x h
   have h:(match qx σ r .rO with|some x=>some (Sum.inr x)|none=>none:Option (a.den⊕r.den))=some x:=h
   cases hr:qx σ r .rO with
   | none=>rw[hr] at h;cases h
   | some y =>
     rw[hr] at h
     obtain rfl:=Option.some.inj h
     obtain⟨h1,h2,h3,h4⟩:=ihr hr
     refine⟨fun w I=>h1 w I,fun τ=>?_,h3,h4⟩
     show(match qx τ r .rO with|some x=>some (Sum.inr x)|none=>none:Option (a.den⊕r.den))=_
     rw[h2 τ];rfl
 | AV=>intro x h;obtain rfl:()=x:=Option.some.inj h;exact⟨fun w I=>rfl,fun τ=>rfl,rfl,rfl⟩
 | slice e=>intro x h;cases h
 | pair a b=>intro x h;cases h
 | _=>intro x h;cases h
theorem Oz:∀{v:aS} {t:Ty} {x:t.den} {σ σ':St} {u:aS},qx σ t v=some x→gb σ u=some σ'→qx σ' t v=some x:=by
 have one:∀{u:aS} {e:Ty} {v:aS} {l:List e.den} {σ σ':St},fV e σ v=some l→gb σ u=some σ'→fV e σ' v=some l:=by
  intro u
  induction u with
  | mix p q Rb OA =>
    intro e v l σ σ' h hf
    simp only[gb] at hf
    cases hp:gb σ p with
    | none=>rw[hp] at hf;cases hf
    | some σ1=>rw[hp] at hf;exact OA (Rb h hp) hf
  | whole b aC=>intro e v l σ σ' h hf;exact Bq h hf
  | part b aC lo n=>intro e v l σ σ' h hf;exact Bq h hf
  | _=>intro e v l σ σ' h hf;obtain rfl:=Option.some.inj hf;exact h
 intro v
 induction v with
 | data u y =>
   intro t x σ σ' u h hf
   cases t with
   | slice e=>exact one h hf
   | _=>exact h
 | mix p q Rb OA =>
   intro t x σ σ' u h hf
   cases t with
   | pair s r =>
     obtain⟨y,z,h1,h2,rfl⟩:=Dg h
     exact Lu (Rb h1 hf) (OA h2 hf)
   | slice e=>exact one h hf
   | _=>cases h
 | rO=>intro t x σ σ' u h hf;exact(oQ h).2.1 _
 | _ =>
   intro t x σ σ' u h hf
   cases t with
   | slice e=>exact one h hf
   | _=>cases h
theorem FR{γ:Gh}{mem:Nat→Option bU}{v:aS}{cs:List Value}(h:cw γ mem w v .cells cs)(h1:eN v=1):∃c,cs=[c]:=by
 have:=h.length
 rw[h1] at this
 exact List.length_eq_one_iff.1 this
theorem Rc:∀{v:aS} {t:Ty} {x:t.den} {cs:List Value} {σ σ':St} {γ:Gh} {a:Act},cX B N γ σ a w→cw γ σ.mem w v .cells cs→qx σ t v=some x→gb σ v=some σ' →
  ∃γ',cX B N γ' σ' a w∧Ext B γ σ.mem w γ' σ'.mem w∧bG w γ'.I t x cs:=by
 have sl:∀{v:aS} {e:Ty} {l:List e.den} {cs:List Value} {σ σ':St} {γ:Gh} {a:Act},eN v=1→(∀c,cw γ σ.mem w v .cells [c]→cw γ σ.mem w v .val [c])→cX B N γ σ a w→cw γ σ.mem w v .cells cs→fV e σ v=some l→gb σ v=some σ' →
   ∃γ',cX B N γ' σ' a w∧Ext B γ σ.mem w γ' σ'.mem w∧bG w γ'.I (.slice e) l cs:=by
  intro v e l cs σ σ' γ a h1 hval h hc hl hf
  obtain⟨c,rfl⟩:=FR hc h1
  exact Df h (hval c hc) hl hf
 intro v
 induction v with
 | data u y =>
   intro t x cs σ σ' γ a h hc hl hf
   obtain rfl:=Option.some.inj hf
   have key:(∃q:u=t,x=q▸y):=by
    cases t with
    | slice e =>
      rcases lR (show fV e σ (.data u y)=some x from hl) with g|⟨g,_⟩|⟨_,_,_,g,_⟩|⟨_,_,_,_,_,g,_⟩
      ·injection g with g1 g2;subst g1;exact⟨rfl,(eq_of_heq g2).symm⟩
      ·cases g
      ·cases g
      ·cases g
    | _=>exact Ty.jP hl
   obtain⟨q,hq⟩:=key
   subst q;subst hq
   exact⟨γ,h,Ext.refl _ _ _ _,hc⟩
 | mix p q Rb OA =>
   intro t x cs σ σ' γ a h hc hl hf
   cases t with
   | pair s r =>
     obtain⟨c1,c2,rfl,h1,h2⟩:=hc
     obtain⟨y,z,hp,hq,rfl⟩:=Dg hl
     obtain⟨σ1,VD,hf1⟩:=uT hf
     obtain⟨jb,s1,s2,s3⟩:=Rb h h1 hp VD
     obtain⟨EW,t1,t2,t3⟩:=OA s1 (h2.ext s2) (Oz hq VD) hf1
     exact⟨EW,t1,s2.trans t2,c1,c2,rfl,bG.mono t2.I t2.cells s3,t3⟩
   | slice e=>exact absurd hl (by intro k;cases k)
   | _=>cases hl
 | nH =>
   intro t x cs σ σ' γ a h hc hl hf
   cases t with
   | slice e=>exact sl (v:=.nH) rfl (fun c k=>k) h hc hl hf
   | _=>cases hl
 | whole b aC =>
   intro t x cs σ σ' γ a h hc hl hf
   cases t with
   | slice e=>exact sl (v:=.whole b aC) rfl (fun c k=>k) h hc hl hf
   | _=>cases hl
 | part b aC lo n =>
   intro t x cs σ σ' γ a h hc hl hf
   cases t with
   | slice e=>exact sl (v:=.part b aC lo n) rfl (fun c k=>k) h hc hl hf
   | _=>cases hl
 | rO =>
   intro t x cs σ σ' γ a h hc hl hf
   obtain rfl:=Option.some.inj hf
   obtain rfl:cs=[.nilIface]:=hc
   exact⟨γ,h,Ext.refl ..,(oQ hl).1 _ _⟩
 | _ =>
   intro t x cs σ σ' γ a h hc hl hf
   cases t with
   | slice e=>exact absurd hl (by intro k;cases k)
   | _=>cases hl
theorem lS{t:Ty}{x:t.den}{v:aS}{val:Value}(h:cX B N γ σ a w)(hv:cw γ σ.mem w v .val [val])(hg:yU σ t v=some (x,σ')) :
  ∃γ',cX B N γ' σ' a w∧Ext B γ σ.mem w γ' σ'.mem w∧cw γ' σ'.mem w (.data t x) .val [val]:=by
 unfold yU at hg
 split at hg
 ·rename_i u y
  split at hg
  ·rename_i y2 hy
   obtain⟨rfl,rfl⟩:=Prod.mk.inj (Option.some.inj hg)
   obtain⟨q,hq⟩:=Ty.jP hy
   subst q;subst hq
   exact⟨γ,h,Ext.refl _ _ _ _,hv⟩
  ·cases hg
 ·split at hg
  ·rename_i y σ1 hl hf
   obtain⟨rfl,rfl⟩:=Prod.mk.inj (Option.some.inj hg)
   cases v with
   | data u y'=>rename_i hne;exact absurd rfl (hne u y')
   | mix p q =>
     obtain⟨c1,c2,e1,h1,h2⟩:=hv
     obtain rfl:val=_:=by simpa using e1
     obtain⟨γ',s1,s2,s3⟩:=Rc h (show cw γ σ.mem w (.mix p q) .cells (c1++c2) from⟨c1,c2,rfl,h1,h2⟩) hl hf
     refine⟨γ',s1,s2,_,s3,?_⟩
     cases t with
     | pair s r=>rfl
     | slice e=>exact absurd hl (by intro k;cases k)
     | _=>cases hl
   | nH =>
     cases t with
     | slice e=>obtain⟨γ',s1,s2,s3⟩:=Df h hv hl hf;exact⟨γ',s1,s2,_,s3,rfl⟩
     | _=>cases hl
   | whole b aC =>
     cases t with
     | slice e=>obtain⟨γ',s1,s2,s3⟩:=Df h hv hl hf;exact⟨γ',s1,s2,_,s3,rfl⟩
     | _=>cases hl
   | part b aC lo n =>
     cases t with
     | slice e=>obtain⟨γ',s1,s2,s3⟩:=Df h hv hl hf;exact⟨γ',s1,s2,_,s3,rfl⟩
     | _=>cases hl
   | rO =>
     obtain rfl:=Option.some.inj hf
     obtain hv:[val]=[Value.nilIface]:=hv
     obtain rfl:val=.nilIface:=by simpa using hv
     exact⟨γ,h,Ext.refl ..,[.nilIface],(oQ hl).1 _ _,by rw[(oQ hl).2.2.1]⟩
   | _ =>
     cases t with
     | slice e=>exact absurd hl (by intro k;cases k)
     | _=>cases hl
  ·cases hg
end
end Go.Ge
namespace Go.Ge
set_option linter.unusedVariables false
set_option linter.unusedSimpArgs false
open RowKit
section
variable {P:Program} {B:qz} {N:Nat} {γ:Gh} {σ σ':St} {a:Act} {w:World} {d:Option Nat} {cx:Ctx}
theorem Re{bx:bU}{k:Nat}{c v:aS}{f:aS→Tree aS}(hb:bx.buf=false)(hv:bx.val=v)(h:(EJ v k f).run=some c):({ bx with val:=c }:bU).row=bx.row:=by
 obtain⟨val,tid,buf,ro,lk,aC⟩:=bx
 subst hb;subst hv
 cases val with
 | data t x =>
   obtain⟨y,h1,h2⟩:=bind_some (show((Hp t x k f).bind fun y=>.ret (.data t y)).run=some c from h)
   obtain rfl:=Option.some.inj h2
   cases t with
   | arr n e=>cases k<;>exact absurd h1 (by intro k;cases k)
   | _=>rfl
 | mix p q =>
   cases k with
   | zero =>
     obtain⟨y,h1,h2⟩:=bind_some (show((f p).bind fun v=>.ret (.mix v q)).run=some c from h)
     obtain rfl:=Option.some.inj h2
     rfl
   | succ k =>
     obtain⟨y,h1,h2⟩:=bind_some (show((EJ q k f).bind fun v=>.ret (.mix p v)).run=some c from h)
     obtain rfl:=Option.some.inj h2
     rfl
 | _=>exact absurd h (by intro k;cases k)
theorem Yr{bx:bU}{e:Ty}{l:List e.den}{i:Int}{y:e.den}(hb:bx.buf=true)(hv:bx.val=.data (.slice e) l):({ bx with val:=.data (.slice e) (sX l i y) }:bU).row=bx.row:=by
 rw[bU.dH hb hv,bU.dH (bx:={ bx with val:=.data (.slice e) (sX l i y) }) (l:=sX l i y) hb rfl]
 simp[sX]
theorem FT{bx:bU}{p:List FK}{v c:aS}(h:(Hq bx.buf p bx.val v).run=some c)(h0:p=[]→bx.buf=false→({ bx with val:=v }:bU).row=bx.row) :
  ({ bx with val:=c }:bU).row=bx.row:=by
 unfold Hq at h
 split at h
 ·rename_i bK
  cases p with
  | nil=>obtain rfl:=Option.some.inj h;exact h0 rfl bK
  | cons s p =>
    cases s with
    | fJ k off=>exact Re bK rfl h
    | idx i size =>
      simp only[xy] at h
      split at h
      ·rename_i n e l hv
       obtain⟨x,hx,h2⟩:=b5 h
       obtain⟨z,hz,h3⟩:=bind_some h2
       split at h3
       ·obtain rfl:=Option.some.inj h3
        rw[bU.pR bK hv]
        exact bU.pR (bx:={ bx with val:=_ }) bK rfl
       ·exact absurd h3 (by intro k;cases k)
      ·exact absurd h (by intro k;cases k)
 ·rename_i bK
  split at h
  ·rename_i i size p e l hv
   obtain⟨x,hx,h2⟩:=b5 h
   obtain⟨z,hz,h3⟩:=bind_some h2
   split at h3
   ·obtain rfl:=Option.some.inj h3
    exact Yr bK hv
   ·exact absurd h3 (by intro k;cases k)
  ·exact absurd h (by intro k;cases k)
theorem Br(h:cX B N γ σ a w){b aC:Nat}{p:List FK}{fit:aS→Bool}{u:aS}{es:List Value}(hr:(storeAt b aC p fit u σ).run=some σ')(hu:cw γ σ.mem w u .cells es)
  (hlen:∀old,fit old=true→es.length=eN old) (hrow:∀bx:bU,fit bx.val=true→bx.buf=false→({ bx with val:=u }:bU).row=bx.row)
  {blk cap:Nat} (hl:γ.loc b=some (blk,cap)) :
  ∃w',(storeCells ⟨blk,cQ p,none⟩ es).run P w=.ok () w'∧cX B N γ σ' a w'∧Ext B γ σ.mem w γ σ'.mem w':=by
 unfold storeAt at hr
 split at hr
 case h_2=>exact absurd hr (by intro k;cases k)
 rename_i bx hb
 obtain⟨hc,hr2⟩:=aD hr
 simp only[Bool.and_eq_true,Bool.not_eq_true'] at hc
 obtain⟨⟨bt,hlk⟩,hro⟩:=hc
 obtain⟨old,hn,jG⟩:=bind_some hr2
 obtain⟨hfit,td⟩:=aD jG
 obtain⟨c,hs,Rf⟩:=bind_some td
 obtain rfl:=Option.some.inj Rf
 have hel:=hlen old hfit
 have hrw:({ bx with val:=c }:bU).row=bx.row:=FT hs fun hp bK=>by
  subst hp
  rw[bK] at hn
  obtain rfl:=Option.some.inj hn
  exact hrow bx hfit bK
 have jj:=h.ok.boxes b bx hb
 unfold cP at jj
 unfold T3 at hn
 unfold Hq at hs
 have hbb:bx.buf=false∨bx.buf=true:=by cases bx.buf<;>simp
 rcases hbb with bK|bK
 ·rw[bK] at jj hn hs
  obtain⟨dF,cap',cur,tid,fr,h1,h2,h3,iq,h4⟩:=jj
  rw[hl] at h1
  obtain⟨rfl,rfl⟩:=Prod.mk.inj (Option.some.inj h1)
  obtain⟨k1,k2⟩:=xG h4 hn
  have Z1:cQ p+es.length≤cur.toList.length:=by rw[hel];exact k1
  have hst:=dn (P:=P) blk (cQ p) tid fr es 0 cur w h2 h3 (by simpa using Z1) (fun v hv=>hu.one v hv)
  rw[Nat.add_zero] at hst
  have hsz:(splice cur.toList (cQ p) es).toArray.size=cur.size:=by have:=bO Z1;simpa using this
  obtain⟨m1,m2⟩:=h.ok.write hb hro hl h2 (cur':=(splice cur.toList (cQ p) es).toArray) (v:=c) hsz hrw
   (fun w' mem' hx hg=>by
    show cP γ mem' w' b { bx with val:=c }
    unfold cP
    simp only[bK]
    exact⟨blk,cap,_,tid,fr,hl,hg,h3.same hsz,iq,by simpa using Ce (h4.ext hx) hn hs (hu.ext hx) hel⟩)
  exact⟨_,hst,h.go m2 m1,m2⟩
 ·rw[bK] at jj hn hs
  obtain⟨e,l,h1,h2,h3⟩:=jj
  rw[h1] at hn hs
  rcases h3 with ⟨h3,_⟩|⟨dF,cap',cur,tid,fr,h3,h4,h5,iq,h6,h7,h8,h9⟩
  ·rw[hl] at h3;cases h3
  ·rw[hl] at h3
   obtain⟨rfl,rfl⟩:=Prod.mk.inj (Option.some.inj h3)
   cases p with
   | nil=>cases hn
   | cons s p =>
     cases s with
     | fJ k off=>cases hn
     | idx i size =>
       obtain⟨hsb,hn2⟩:=aD hn
       have hsz:=Nat.eq_of_beq_eq_true hsb
       obtain⟨x,hx,Ym⟩:=b5 hn2
       obtain⟨x',hx',hs2⟩:=b5 hs
       obtain rfl:x=x':=Option.some.inj (hx.symm.trans hx')
       obtain⟨z,hq,hs3⟩:=bind_some hs2
       cases hz:toS e z with
       | none=>rw[hz] at hs3;cases hs3
       | some y =>
         rw[hz] at hs3
         obtain rfl:=Option.some.inj hs3
         obtain⟨h0,hx2⟩:=rP hx
         have hr:=h9 _ x hx2
         have hrl:=hr.length
         have hi:i.toNat<l.length:=(List.getElem?_eq_some_iff.1 hx2).1
         have hm2:(i.toNat+1)*e.size≤cap*e.size:=Nat.mul_le_mul_right _ (by omega)
         rw[Nat.succ_mul] at hm2
         have hrr:cw γ σ.mem w (.data e x) .cells ((cur.toList.drop (i.toNat*e.size)).take e.size):=hr
         obtain⟨k1,k2⟩:=xG hrr Ym
         rw[hrl] at k1
         have hcs:cur.toList.length=cap*e.size:=by simpa using h8
         have hoff:cQ (.idx i size::p)=i.toNat*e.size+cQ p:=by simp only[cQ,hsz]
         have Z1:cQ (.idx i size::p)+es.length≤cur.toList.length:=by rw[hoff,hel,hcs];omega
         have hst:=dn (P:=P) blk (cQ (.idx i size::p)) tid fr es 0 cur w h4 h5.th (by simpa using Z1) (fun v hv=>hu.one v hv)
         rw[Nat.add_zero] at hst
         have VT:(splice cur.toList (cQ (.idx i size::p)) es).toArray.size=cur.size:=by have:=bO Z1;simpa using this
         have e1:=qU cur.toList (i.toNat*e.size) (cQ p) e.size es (by rw[hel];exact k1) (by rw[hcs];omega)
         obtain⟨m1,m2⟩:=h.ok.write hb hro hl h4 (cur':=(splice cur.toList (cQ (.idx i size::p)) es).toArray) (v:=.data (.slice e) (sX (α:=e.den) l i y)) VT hrw
          (fun w' mem' hx hg=>by
           show cP γ mem' w' b { bx with val:=.data (.slice e) (sX (α:=e.den) l i y) }
           unfold cP
           simp only[bK]
           refine⟨e,_,rfl,h2,.inr ⟨blk,cap,_,tid,fr,hl,hg,h5.same VT,iq,?_,h7,by rw[VT];exact h8,?_⟩⟩
           ·exact Nat.le_trans (Nat.le_of_eq List.length_set) h6
           ·have hzz:=HA hz (Ce (hrr.ext hx) Ym hq (hu.ext hx) hel)
            have:=HY (w:=w') (I:=γ.I) (l:=l) (n:=l.length) (cs:=cur.toList) rfl (by rw[hcs];exact Nat.mul_le_mul_right _ h6)
             (fun j x hj=>bG.mono hx.I hx.cells (h9 j x hj)) hi hzz
            rw[e1,←hoff] at this
            exact this)
         exact⟨_,hst,h.go m2 m1,m2⟩
theorem FU{ty:TypeId}{blk off n:Nat}{v:Value}{w':World}(hs:(Go.sizeOf ty).run P w=.ok n w)(hn:v.cells.toList.length=n)(hst:(storeCells ⟨blk,off,none⟩ v.cells.toList).run P w=.ok () w') :
  (Instr.storeAt ty (.pointer (some ⟨blk,off,none⟩)) v).run P w=.ok () w':=by
 have hn':v.cells.size=n:=by simpa using hn
 simp only[Instr.storeAt,Instr.sureAddr,storeVar,Sem.run_bind,Sem.run_pure,Result.andThen_ok,hs,hn',ne_eq,not_true_eq_false,if_false]
 exact hst
theorem GN(hc:fC P cx){ty:TypeId}{x y:Operand}(h:cX B N γ σ a w)(hr:(kO cx ty (cJ σ x) (cJ σ y) σ).run=some σ') :
  ∃w' γ',(Instr.storeAt ty (a.eval x) (a.eval y)).run P w=.ok () w'∧cX B N γ' σ' a w'∧Ext B γ σ.mem w γ' σ'.mem w':=by
 have hv:=h.cJ x
 have hy:=h.cJ y
 unfold kO at hr
 split at hr
 case h_2=>exact absurd hr (by intro k;cases k)
 rename_i b aC p hx
 rw[hx] at hv
 split at hr
 case h_2=>exact absurd hr (by intro k;cases k)
 rename_i bx hb
 obtain⟨bt,hr2⟩:=aD hr
 have bt:=Nat.eq_of_beq_eq_true bt
 obtain⟨old,hn,jG⟩:=bind_some hr2
 obtain⟨blk,cap,hl,hval⟩:=bq hb bt hv.2
 obtain hval:a.eval x=_:=by simpa using hval
 rw[hval]
 split at jG
 ·rename_i u z
  obtain⟨hT,td⟩:=aD jG
  have hT:=iu hT
  have hD:=hc.T _ _ hT
  split at td
  ·rename_i y0 σ1 hg
   obtain⟨jb,s1,s2,s3⟩:=lS h hy hg
   obtain⟨cs,c1,c2⟩:=s3
   obtain Z0:a.eval y=_:=by simpa using c2
   have VC:(a.eval y).cells.toList=cs:=by rw[Z0];exact qT c1
   obtain⟨gu,g1,g2,g3⟩:=s2.boxes b bx hb
   have hl1:jb.loc b=some (blk,cap):=by
    have hv':gu.aC=bx.aC:=by
     unfold storeAt at td
     split at td
     ·rename_i bx2 hb2
      rw[g1] at hb2
      obtain rfl:=Option.some.inj hb2
      obtain⟨hc,_⟩:=aD td
      simp only[Bool.and_eq_true] at hc
      have:=Nat.eq_of_beq_eq_true hc.1.1
      omega
     ·exact absurd td (by intro k;cases k)
    rw[(g3 hv').1];exact hl
   obtain⟨w',k1,k2,k3⟩:=Br (P:=P) s1 td (u:=.data u y0) (es:=cs) c1 (fun old hf=>by
    unfold ZV at hf
    split at hf
    ·rename_i t q
     obtain rfl:=Ty.eq_of_beq hf
     exact c1.length
    ·cases hf) (fun bx hf bK=>by
    unfold ZV at hf
    split at hf
    ·rename_i t q mH
     obtain rfl:=Ty.eq_of_beq hf
     cases t with
     | arr n e=>rw[bU.pR bK mH];exact bU.pR (bx:={ bx with val:=_ }) bK rfl
     | _=>unfold bU.row;rw[bK,mH]
    ·cases hf) hl1
   refine⟨w',jb,FU (hD.sizeOf w) ?_ ?_,k2,s2.trans k3⟩
   ·rw[VC];exact c1.length
   ·rw[VC];exact k1
  ·exact absurd td (by intro k;cases k)
 ·obtain⟨hT,td⟩:=aD jG
  simp only[Bool.and_eq_true] at hT
  obtain⟨Lt,hrf⟩:=hT
  have key:∀{v:aS},EL cx ty v=true→isRef v=true→eN v=1∧(Go.sizeOf ty).run P w=.ok 1 w:=by
   intro v h1 h2
   unfold EL at h1
   split at h1
   ·cases h2
   ·split at h1
    ·rename_i e hT;exact⟨rfl,(hc.T _ _ hT).sizeOf w⟩
    ·cases h1
   ·exact⟨rfl,(hc.sE _ h1).2.1 w⟩
   ·exact⟨rfl,(hc.sE _ h1).2.1 w⟩
   ·exact⟨rfl,(hc.sE _ h1).2.1 w⟩
   ·cases h1
  obtain⟨h1,hsz⟩:=key Lt hrf
  have hyc:cw γ σ.mem w (cJ σ y) .cells (a.eval y).cells.toList:=by
   refine hy.pP (fun u e=>?_) (fun e=>?_)
   ·rw[e] at hrf;cases hrf
   ·rw[e] at hrf;cases hrf
  have VU:(a.eval y).cells.toList.length=1:=by rw[hyc.length,h1]
  obtain⟨w',k1,k2,k3⟩:=Br (P:=P) h td hyc (fun old hf=>by
   simp only[Bool.or_eq_true,Bool.and_eq_true] at hf
   rcases hf with hf|hf
   ·rw[VU,(key hf.1 hf.2).1]
   ·rw[VU]
    cases old<;>first|rfl|cases hf) (fun bx hf bK=>by
   simp only[Bool.or_eq_true,Bool.and_eq_true] at hf
   have e1:∀{v:aS} {bx:bU},(isRef v=true∨Ti v=true)→bx.buf=false→bx.val=v→bx.row=none:=by
    intro v bx h1 h2 h3
    unfold bU.row
    rw[h2,h3]
    cases v<;>first|rfl|(rcases h1 with h1|h1<;>cases h1)
   rw[e1 (hf.elim (fun q=>.inl q.2) .inr) bK rfl];exact e1 (bx:={ bx with val:=cJ σ y }) (.inl hrf) bK rfl) hl
  exact⟨w',γ,FU hsz VU k1,k2,k3⟩
theorem qG(t:TypeId)(v:Value):(newVar t v).run P w=.ok ⟨w.heap.size,0,none⟩ (w.alloc (.cells v.cells t)):=by
 simp[newVar,newRow]
theorem Az{mem:Nat→Option bU}{w':World}{b:Nat}{bx:bU}{cap:Nat}:cw (bI γ b (some (w.heap.size,cap))) (cE mem b bx) w' (.ptr b bx.aC []) .val [.pointer (some ⟨w.heap.size,0,none⟩)] :=
 ⟨⟨_,rfl,rfl⟩,gz (bA _ _) rfl ⟨w.heap.size,cap,by simp[bI],rfl⟩⟩
theorem OB(hc:fC P cx){elem:TypeId}{nb k:Nat}{t:Ty}(h:cX B N γ σ a w)(hd:k<N)(hT:find cx.T elem=some t)
  (hr:(σ.aO (nb+k) (.data t t.zero) 0 false fun aC σ=>.ret (σ.put k (.ptr (nb+k) aC []))).run=some σ') :
  oJ P B N γ σ a w (some k) (Instr.alloc elem true (.tuple #[])) σ':=by
 obtain⟨aC,bt,hr2⟩:=dX hr
 obtain rfl:=Option.some.inj hr2
 obtain⟨z,hz,X4⟩:=(hc.T _ _ hT).zero w
 obtain⟨m1,m2⟩:=h.ok.newVar (b:=nb+k) (v:=.data t t.zero) (tid:=0) bt (cs:=z.cells) elem (.inl rfl) (by rw[X4];exact mK w γ.I t)
 refine⟨.pointer (some ⟨w.heap.size,0,none⟩),_,_,?_,h.step m2 m1 hd Az,m2⟩
 simp only[Instr.alloc,Sem.run_bind,hz,Result.andThen_ok,qG,Sem.run_pure]
theorem GO(hc:fC P cx){elem:TypeId}{nb k:Nat}(h:cX B N γ σ a w)(hd:k<N)(hT:dJ cx.sE elem=true)
  (hr:(σ.aO (nb+k) .undef 0 false fun aC σ=>.ret (σ.put k (.ptr (nb+k) aC []))).run=some σ') :
  oJ P B N γ σ a w (some k) (Instr.alloc elem true (.tuple #[])) σ':=by
 obtain⟨aC,bt,hr2⟩:=dX hr
 obtain rfl:=Option.some.inj hr2
 obtain⟨z,hz,hone⟩:=(hc.sE _ hT).2.2
 have hz:=hz w
 obtain⟨m1,m2⟩:=h.ok.newVar (b:=nb+k) (v:=.undef) (tid:=0) bt (cs:=z.cells) elem (.inl rfl) ⟨z,by cases z<;>first|rfl|(simp[Value.oneCell'] at hone),hone⟩
 refine⟨.pointer (some ⟨w.heap.size,0,none⟩),_,_,?_,h.step m2 m1 hd Az,m2⟩
 simp only[Instr.alloc,Sem.run_bind,hz,Result.andThen_ok,qG,Sem.run_pure]
theorem OC{b aC:Nat}:∀{fs:List nw} {j:Nat} {σ:St} {γ:Gh} {r:aS×St},bE B γ σ.mem w→(mkObj b aC fs j σ).run=some r →
  ∃jb,bE B jb r.2.mem w∧Ext B γ σ.mem w jb r.2.mem w∧r.2.slots=σ.slots ∧
   ∀γ' mem' w',Ext B jb r.2.mem w γ' mem' w'→(∃bx blk cap,mem' b=some bx∧aC≤bx.aC∧γ'.loc b=some (blk,cap))→cw γ' mem' w' r.1 .cells (HV fs):=by
 intro fs
 induction fs with
 | nil=>intro j σ γ r h hr;obtain rfl:=Option.some.inj hr;exact⟨γ,h,Ext.refl _ _ _ _,rfl,fun _ _ _ _ _=>rfl⟩
 | cons f r ih =>
   intro j σ γ q h hr
   cases f with
   | dat t =>
     obtain⟨y,h1,h2⟩:=bind_some hr
     obtain rfl:=Option.some.inj h2
     obtain⟨jb,k1,k2,k3,k4⟩:=ih h h1
     exact⟨jb,k1,k2,k3,fun γ' mem' w' hx hb=>⟨_,_,rfl,mK _ _ t,k4 γ' mem' w' hx hb⟩⟩
   | one =>
     obtain⟨y,h1,h2⟩:=bind_some hr
     obtain rfl:=Option.some.inj h2
     obtain⟨jb,k1,k2,k3,k4⟩:=ih h h1
     exact⟨jb,k1,k2,k3,fun γ' mem' w' hx hb=>⟨[.pointer none],_,rfl,rfl,k4 γ' mem' w' hx hb⟩⟩
   | self =>
     obtain⟨y,h1,h2⟩:=bind_some hr
     obtain rfl:=Option.some.inj h2
     obtain⟨jb,k1,k2,k3,k4⟩:=ih h h1
     refine⟨jb,k1,k2,k3,fun γ' mem' w' hx hb=>⟨[.pointer none],_,rfl,?_,k4 γ' mem' w' hx hb⟩⟩
     obtain⟨bx,blk,cap,g1,g2,g3⟩:=hb
     exact⟨⟨_,rfl,rfl⟩,bx,g1,g2,fun _=>⟨blk,cap,g3,.inl rfl⟩⟩
   | buf e eZ =>
     obtain⟨he,kD⟩:=aD hr
     have he':0<e.size:=by simpa using he
     obtain⟨v,bt,hr2⟩:=dX kD
     obtain⟨y,h1,h2⟩:=bind_some hr2
     obtain rfl:=Option.some.inj h2
     obtain⟨m1,m2⟩:=h.HZ (b:=b*1000+999-j) (e:=e) (tid:=eZ) bt he'
     obtain⟨jb,k1,k2,k3,k4⟩:=ih m1 h1
     refine⟨jb,k1,m2.trans k2,k3,fun γ' mem' w' hx hb=>⟨[.slice none 0 0],_,rfl,?_,k4 γ' mem' w' hx hb⟩⟩
     refine cw.ext (k2.trans hx) (v:=.whole (b*1000+999-j) v) (m:=.cells) ?_
     exact⟨⟨_,rfl,rfl⟩,gz (bA _ _) rfl ⟨e,0,rfl,rfl,.inl ⟨by simp[bI],rfl⟩⟩⟩
theorem GP(hc:fC P cx){elem:TypeId}{nb k:Nat}{fs:List nw}(h:cX B N γ σ a w)(hd:k<N)(hT:find cx.sY elem=some fs)
  (hr:((mkObj (nb+k) (Hs σ (nb+k)) fs 0 σ).bind fun r=>r.2.aO (nb+k) r.1 elem false fun aC σ=>.ret (σ.put k (.ptr (nb+k) aC []))).run=some σ') :
  oJ P B N γ σ a w (some k) (Instr.alloc elem true (.tuple #[])) σ':=by
 obtain⟨r,h1,h2⟩:=bind_some hr
 obtain⟨jb,k1,k2,k3,k4⟩:=OC h.ok h1
 obtain⟨aC,bt,hr2⟩:=dX h2
 obtain rfl:=Option.some.inj hr2
 obtain⟨z,hz,X4⟩:=T6 (hc.sY _ _ hT) w
 have hle:Hs σ (nb+k)≤aC:=by
  unfold Hs
  split
  ·rename_i bx rS
   obtain⟨gu,e1,e2,_⟩:=k2.boxes _ bx rS
   have:=bt gu e1
   omega
  ·exact Nat.zero_le _
 let bx:bU:={ val:=r.1,tid:=elem,buf:=false,ro:=false,lk:=false,aC }
 have hw:tZ B w (w.alloc (.cells z.cells elem)):=(tZ.refl _ _).alloc k1.base _
 have hx:=tc (L:=some (w.heap.size,0)) k1 (bx:=bx) bt hw (cK w _)
 have jj:cP (bI jb (nb+k) (some (w.heap.size,0))) (cE r.2.mem (nb+k) bx) (w.alloc (.cells z.cells elem)) (nb+k) bx :=
  ⟨w.heap.size,0,z.cells,elem,(0,0),by simp[bI],heap_alloc_new w _,rQ _,.inr rfl,by
   rw[X4]
   exact k4 _ _ _ hx ⟨bx,w.heap.size,0,bA _ _,hle,by simp[bI]⟩⟩
 have m1:=k1.add bt hw (cK w _) (fun blk k e=>by obtain⟨rfl,rfl⟩:=Prod.mk.inj (Option.some.inj e);exact⟨Nat.le_refl _,by simp⟩) jj
 refine⟨.pointer (some ⟨w.heap.size,0,none⟩),_,_,?_,?_,k2.trans hx⟩
 ·simp only[Instr.alloc,Sem.run_bind,hz,Result.andThen_ok,qG,Sem.run_pure]
 ·have:=h.step (k2.trans hx) m1 hd (Az (bx:=bx))
  rw[←k3] at this
  exact this
theorem FV{b j:Nat}{v:aS}{σ:St}{r:aS×St}(hr:(mI b [] j v σ).run=some r):r=(v,σ):=by
 cases v with
 | data t x=>cases t<;>first|(obtain rfl:=Option.some.inj hr;rfl)|cases hr
 | _=>cases hr
theorem Dh{b j:Nat}{f:nw}{q:List nw}{v:aS}{σ:St}{r:aS×St}(hr:(mI b (f::q) j v σ).run=some r) :
  (∃x u y,v=.mix x u∧(mI b q (j+1) u σ).run=some y∧r=(.mix x y.1,y.2)) ∨
  (∃e eZ u,v=.mix .nH u∧0<e.size∧(σ.aO (b*1000+999-j) (.data (.slice e) []) eZ true fun aC σ=>(mI b q (j+1) u σ).bind fun x=>.ret (.mix (.whole (b*1000+999-j) aC) x.1,x.2)).run=some r):=by
 cases v with
 | mix a u =>
   cases f with
   | dat t =>
     cases a with
     | data t' z =>
       obtain⟨y,h1,h2⟩:=bind_some (show((mI b q (j+1) u σ).bind fun x=>.ret (.mix (.data t' z) x.1,x.2)).run=some r from hr)
       exact .inl ⟨_,u,y,rfl,h1,(Option.some.inj h2).symm⟩
     | _=>cases hr
   | one =>
     cases a with
     | qB =>
       obtain⟨y,h1,h2⟩:=bind_some (show((mI b q (j+1) u σ).bind fun x=>.ret (.mix .qB x.1,x.2)).run=some r from hr)
       exact .inl ⟨_,u,y,rfl,h1,(Option.some.inj h2).symm⟩
     | _=>cases hr
   | buf e eZ =>
     cases a with
     | nH =>
       obtain⟨he,kD⟩:=aD hr
       exact .inr ⟨e,eZ,u,rfl,by simpa using he,kD⟩
     | _=>cases hr
   | self=>cases a<;>cases hr
 | _=>cases f<;>cases hr
theorem GQ(hc:fC P cx){elem:TypeId}{nb k:Nat}{bf:List Nat}{t:Ty}(h:cX B N γ σ a w)(hd:k<N)(hT:find cx.T elem=some t)
  (hr:(tM nb bf k t σ).run=some σ'):oJ P B N γ σ a w (some k) (Instr.alloc elem true (.tuple #[])) σ':=by
 unfold tM at hr
 split at hr
 ·rename_i e _
  obtain⟨he,kD⟩:=aD hr
  have he':0<e.size:=by simpa using he
  obtain⟨v,bt,hr2⟩:=dX kD
  obtain⟨m1,m2⟩:=h.ok.HZ (b:=(nb+k)*1000+999) (e:=e) (tid:=0) bt he'
  obtain⟨aC,abH,jG⟩:=dX hr2
  obtain rfl:=Option.some.inj jG
  obtain⟨i,z,i1,i2,i3,i4⟩:=(hc.T _ _ hT).info
  have hz:(zeroValue elem).run P w=.ok z w:=by simp[zeroValue,typeInfo,i1,i3]
  have MC:cw (bI γ ((nb+k)*1000+999) none) (cE σ.mem ((nb+k)*1000+999) { val:=.data (.slice e) ([]:List e.den),tid:=0,buf:=true,ro:=false,lk:=false,aC:=v }) w (.whole ((nb+k)*1000+999) v) .cells z.cells.toList:=by
   rw[i4]
   exact⟨⟨_,rfl,rfl⟩,gz (bA _ _) rfl ⟨e,0,rfl,rfl,.inl ⟨by simp[bI],rfl⟩⟩⟩
  obtain⟨n1,n2⟩:=m1.newVar (b:=nb+k) (v:=.whole ((nb+k)*1000+999) v) (tid:=0) abH (cs:=z.cells) elem (.inl rfl) MC
  refine⟨.pointer (some ⟨w.heap.size,0,none⟩),_,_,?_,h.step (m2.trans n2) n1 hd Az,m2.trans n2⟩
  simp only[Instr.alloc,Sem.run_bind,hz,Result.andThen_ok,qG,Sem.run_pure]
 ·exact OB hc h hd hT hr
theorem Kb{b:Nat}:∀{fs:List nw} {j:Nat} {v:aS} {σ:St} {γ:Gh} {r:aS×St} {cs:List Value},bE B γ σ.mem w→cw γ σ.mem w v .cells cs→(mI b fs j v σ).run=some r →
  ∃jb,bE B jb r.2.mem w∧Ext B γ σ.mem w jb r.2.mem w∧r.2.slots=σ.slots∧cw jb r.2.mem w r.1 .cells cs:=by
 intro fs
 induction fs with
 | nil =>
   intro j v σ γ r cs h hv hr
   obtain rfl:=FV hr
   exact⟨γ,h,Ext.refl _ _ _ _,rfl,hv⟩
 | cons f q ih =>
   intro j v σ γ r cs h hv hr
   rcases Dh hr with ⟨x,u,y,rfl,h1,rfl⟩|⟨e,eZ,u,rfl,he,kD⟩
   ·obtain⟨c1,c2,rfl,v1,v2⟩:=hv
    obtain⟨jb,k1,k2,k3,k4⟩:=ih h v2 h1
    exact⟨jb,k1,k2,k3,c1,c2,rfl,v1.ext k2,k4⟩
   ·obtain⟨k,bt,hr2⟩:=dX kD
    obtain⟨y,h1,h2⟩:=bind_some hr2
    obtain rfl:=Option.some.inj h2
    obtain⟨c1,c2,rfl,v1,v2⟩:=hv
    obtain⟨m1,m2⟩:=h.HZ (b:=b*1000+999-j) (e:=e) (tid:=eZ) bt he
    obtain⟨jb,k1,k2,k3,k4⟩:=ih m1 (v2.ext m2) h1
    obtain rfl:c1=[.slice none 0 0]:=v1
    refine⟨jb,k1,m2.trans k2,k3,[.slice none 0 0],c2,rfl,?_,k4⟩
    refine cw.ext k2 (v:=.whole (b*1000+999-j) k) (m:=.cells) ?_
    exact⟨⟨_,rfl,rfl⟩,gz (bA _ _) rfl ⟨e,0,rfl,rfl,.inl ⟨by simp[bI],rfl⟩⟩⟩
theorem Kc{elem:TypeId}{nb k:Nat}{x:Operand}{fs:List nw}(h:cX B N γ σ a w)(hd:k<N)(hu:cJ σ x≠.undef)(ht:∀u,cJ σ x≠.Ca u)
  (hr:((mI (nb+k) fs 0 (cJ σ x) σ).bind fun r=>r.2.aO (nb+k) r.1 elem false fun aC σ=>.ret (σ.put k (.ptr (nb+k) aC []))).run=some σ') :
  oJ P B N γ σ a w (some k) (Instr.box elem (a.eval x)) σ':=by
 obtain⟨r,h1,h2⟩:=bind_some hr
 obtain⟨jb,k1,k2,k3,k4⟩:=Kb h.ok ((h.cJ x).pP ht (fun e=>absurd e hu)) h1
 obtain⟨aC,bt,hr2⟩:=dX h2
 obtain rfl:=Option.some.inj hr2
 obtain⟨m1,m2⟩:=k1.newVar (b:=nb+k) (v:=r.1) (tid:=elem) bt (cs:=(a.eval x).cells) elem (.inr rfl) k4
 refine⟨.pointer (some ⟨w.heap.size,0,none⟩),_,_,?_,?_,k2.trans m2⟩
 ·simp only[Instr.box,Sem.run_bind,qG,Result.andThen_ok,Sem.run_pure]
 ·have:=h.step (k2.trans m2) m1 hd Az
  rw[←k3] at this
  exact this
theorem Uc{elem:TypeId}{nb k:Nat}{x:Operand}(h:cX B N γ σ a w)(hd:k<N)(hu:cJ σ x≠.undef)(ht:∀u,cJ σ x≠.Ca u)
  (hr:(σ.aO (nb+k) (cJ σ x) 0 false fun aC σ=>.ret (σ.put k (.ptr (nb+k) aC []))).run=some σ') :
  oJ P B N γ σ a w (some k) (Instr.box elem (a.eval x)) σ':=by
 obtain⟨aC,bt,hr2⟩:=dX hr
 obtain rfl:=Option.some.inj hr2
 obtain⟨m1,m2⟩:=h.ok.newVar (b:=nb+k) (v:=cJ σ x) (tid:=0) bt (cs:=(a.eval x).cells) elem (.inl rfl) ((h.cJ x).pP ht (fun e=>absurd e hu))
 refine⟨.pointer (some ⟨w.heap.size,0,none⟩),_,_,?_,h.step m2 m1 hd Az,m2⟩
 simp only[Instr.box,Sem.run_bind,qG,Result.andThen_ok,Sem.run_pure]
theorem Ys{mem:Nat→Option bU}:∀{u v:aS} {k:Nat} {vs:List Value},cw γ mem w u .many vs→nth u k=some v→∃x,vs[k]?=some x∧cw γ mem w v .val [x]:=by
 intro u
 induction u with
 | mix p q Rb OA =>
   intro v k vs h hn
   obtain⟨c,r,rfl,h1,h2⟩:=h
   cases k with
   | zero=>obtain rfl:=Option.some.inj hn;exact⟨c,rfl,h1⟩
   | succ k=>obtain⟨x,hx,hr⟩:=OA h2 hn;exact⟨x,by simpa using hx,hr⟩
 | _=>intro v k vs h hn;exact absurd hn (by intro k;cases k)
theorem Kd{x:Operand}{k:Nat}{vs v:aS}(h:cX B N γ σ a w)(hd:∀k,d=some k→k<N)(hx:cJ σ x=.Ca vs)(hn:nth vs k=some v) :
  oJ P B N γ σ a w d (Instr.extract (a.eval x) k) (σ.aU d v):=by
 have hv:=h.cJ x
 rw[hx] at hv
 obtain⟨arr,h1,h2⟩:=hv
 obtain h1:a.eval x=_:=by simpa using h1
 obtain⟨y,hy,hr⟩:=Ys h2 hn
 refine bM h hd (x:=y) ?_ hr
 rw[h1]
 have:arr[k]?=some y:=by simpa using hy
 simp only[Instr.extract,this,Sem.run_pure]
theorem VV:∀{ops:List Operand} {cs:List (Nat×Nat)},cX B N γ σ a w→EN (ops.map (cJ σ))=some cs→cs.length=ops.length ∧
  ∀(i:Nat) b aC,cs[i]?=some (b,aC)→lQ σ.mem b aC fun _=>∃blk cap,γ.loc b=some (blk,cap)∧(ops.map a.eval)[i]?=some (.pointer (some ⟨blk,0,none⟩)):=by
 intro ops
 induction ops with
 | nil=>intro cs h hc;obtain rfl:=Option.some.inj hc;exact⟨rfl,fun i b aC hi=>by cases hi⟩
 | cons o r ih =>
   intro cs h hc
   have ho:=h.cJ o
   simp only[List.map_cons] at hc
   unfold EN at hc
   split at hc
   ·rename_i heq;cases heq
   ·rename_i b0 Yt r0 heq
    injection heq with q1 q2
    subst q2
    rw[q1] at ho
    cases hr:EN (r.map (cJ σ)) with
    | none=>rw[hr] at hc;cases hc
    | some cs' =>
      rw[hr] at hc
      obtain rfl:=Option.some.inj hc
      obtain⟨i1,i2⟩:=ih h hr
      refine⟨by simp[i1],fun i b aC hi=>?_⟩
      cases i with
      | zero =>
        obtain⟨rfl,rfl⟩:=Prod.mk.inj (Option.some.inj hi)
        obtain⟨bx,k1,k2,k3⟩:=ho.2
        refine⟨bx,k1,k2,fun e=>?_⟩
        obtain⟨blk,cap,j1,j2⟩:=k3 e
        obtain j2:a.eval o=_:=by simpa using j2
        exact⟨blk,cap,j1,by simp[j2,cQ]⟩
      | succ i =>
        have:=i2 i b aC (by simpa using hi)
        simpa using this
   ·cases hc
theorem Ia{f:Nat}{caps:Array Operand}{cs:List (Nat×Nat)}(h:cX B N γ σ a w)(hd:∀k,d=some k→k<N)(hcs:EN (caps.toList.map (cJ σ))=some cs) :
  oJ P B N γ σ a w d (Instr.makeFunc (.func f) #[] (caps.map a.eval)) (σ.aU d (.fn f cs)):=by
 obtain⟨h1,h2⟩:=VV h hcs
 refine bM h hd (x:=.func (.func f) #[] (caps.map a.eval)) rfl ?_
 refine⟨caps.map a.eval,rfl,by rw[h1];simp,fun i b aC hi=>?_⟩
 obtain⟨bx,k1,k2,k3⟩:=h2 i b aC hi
 refine⟨bx,k1,k2,fun e=>?_⟩
 obtain⟨blk,cap,j1,j2⟩:=k3 e
 exact⟨blk,cap,j1,by simpa using j2⟩
end
end Go.Ge
