/- Plain laws of what the functions compute: part 3. -/
import Derived.Test.YtjkmocnbjhpilaaGreatDoorPlB
namespace Go.Ge
set_option linter.unusedVariables false
set_option linter.unusedSimpArgs false
def vH(p:List UInt8):Nat→Option Nat
 | 0=>none
 | n+1=>if p[n]?=some 47 then some n else vH p n
theorem Jt(p:List UInt8)(hp:p.length≤1048576):cj (p,(47,()))=some (match vH p p.length with|some k=>(k:Int)|none=>-1,()):=by
 unfold cj
 dsimp only
 have run:∀n,n≤p.length→∃q,Loop (bW (p,(47,()))) ((0,(((n:Int)-1),())),())=some q∧(match vH p n with|some k=>q.1=1∧q.2.1.1=(k:Int)|none=>q.1=0):=by
  intro n
  induction n with
  | zero =>
    intro _
    refine⟨(0,((0,(-1,())),())),?_,rfl⟩
    rw[bH];rfl
  | succ n ih =>
    intro hn
    obtain⟨y,hy⟩:∃y,p[n]?=some y:=⟨_,List.getElem?_eq_getElem (by omega)⟩
    have e:((n+1:Nat):Int)-1=(n:Int):=by omega
    rw[e,bH]
    have st:bW (p,(47,())) ((0,((n:Int),())),())=if y=47 then some (.inr (1,(((n:Int),((n:Int),())),()))) else some (.inl ((0,((n:Int)-1,())),())):=by
     unfold bW
     dsimp only
     rw[eF (by omega),af,aK hy,aa,Ot,nM (by omega) (by omega),E9]
    rw[st,vH,hy]
    by_cases h:y=47
    ·rw[if_pos h,if_pos (by rw[h])]
     exact⟨_,rfl,rfl,rfl⟩
    ·rw[if_neg h,if_neg (fun q=>h (Option.some.inj q))]
     exact ih (by omega)
 obtain⟨q,h1,h2⟩:=run p.length (Nat.le_refl _)
 have e:cM .i64 (len p) 1=(p.length:Int)-1:=by rw[cN,nM (by omega) (by omega)]
 rw[e,h1,aa]
 cases hl:vH p p.length with
 | none=>rw[hl] at h2;rw[h2,dN,af]
 | some k=>rw[hl] at h2;rw[h2.1,h2.2,gK,ag]
theorem Fh:∀{p:List UInt8} {n k:Nat},vH p n=some k→k<n∧p[k]?=some 47∧∀j,k<j→j<n→p[j]?≠some 47:=by
 intro p n
 induction n with
 | zero=>intro k h;cases h
 | succ n ih =>
   intro k h
   rw[vH] at h
   split at h
   ·rename_i hp
    obtain rfl:=Option.some.inj h
    exact⟨Nat.lt_succ_self _,hp,fun j h1 h2=>by omega⟩
   ·rename_i hp
    obtain⟨h1,h2,h3⟩:=ih h
    refine⟨by omega,h2,fun j h4 h5=>?_⟩
    by_cases e:j=n
    ·rw[e];exact hp
    ·exact h3 j h4 (by omega)
theorem Ny:∀{p:List UInt8} {n:Nat},vH p n=none→∀j,j<n→p[j]?≠some 47:=by
 intro p n
 induction n with
 | zero=>intro _ j h;omega
 | succ n ih =>
   intro h j hj
   rw[vH] at h
   split at h
   ·cases h
   ·rename_i hp
    by_cases e:j=n
    ·rw[e];exact hp
    ·exact ih h j (by omega)
def aJ(p:List UInt8):List UInt8×List UInt8:=match vH p p.length with|some k=>(p.take k,p.drop (k+1))|none=>([],p)
theorem iW(p:List UInt8):(47∉p∧aJ p=([],p))∨∃a b,p=a++47::b∧47∉b∧aJ p=(a,b):=by
 unfold aJ
 cases h:vH p p.length with
 | none =>
   refine .inl ⟨fun hm=>?_,rfl⟩
   obtain⟨j,hj,e⟩:=List.getElem_of_mem hm
   exact Ny h j hj (by rw[List.getElem?_eq_getElem hj,e])
 | some k =>
   obtain⟨h1,h2,h3⟩:=Fh h
   refine .inr ⟨p.take k,p.drop (k+1),?_,fun hm=>?_,rfl⟩
   ·obtain⟨hk,e⟩:=List.getElem?_eq_some_iff.1 h2
    rw[←e,←List.drop_eq_getElem_cons hk,List.take_append_drop]
   ·obtain⟨j,hj,e⟩:=List.getElem_of_mem hm
    rw[List.length_drop] at hj
    rw[List.getElem_drop] at e
    exact h3 (k+1+j) (by omega) (by omega) (by rw[List.getElem?_eq_getElem (by omega),e])
theorem kD(p:List UInt8)(hp:p.length≤1048576):dX (p,())=some ((aJ p).1,((aJ p).2,())):=by
 unfold dX ld
 dsimp only
 rw[show bp (len [(47:UInt8)]) 0=false from rfl,ag,show bp (len [(47:UInt8)]) 1=true from rfl,af,show idx [(47:UInt8)] 0=some 47 from rfl,aa]
 rw[show u8 47=47 from rfl,Jt p hp,aa,aa]
 unfold aJ
 cases h:vH p p.length with
 | none=>rw[cH (by decide),af]
 | some k =>
   obtain⟨h1,_,_⟩:=Fh h
   dsimp only
   rw[bq (by omega),ag,show inside 0 (k:Int) (len p)=true from bA (by omega) (by omega) (by rw[cN];omega),af,bI (by omega),bA (by omega) (by rw[cN];omega) (Int.le_refl _),af,lM,pZ p (k+1) (by omega)]
theorem sR(a b:List UInt8)(hb:47∉b):bS (a++47::b)=bS a++[b]:=by
 induction a with
 | nil =>
   have e:bS (47::b)=[]::bS b:=by rw[bS,if_pos rfl]
   rw[List.nil_append,e,kV b hb];rfl
 | cons c a ih =>
   rw[List.cons_append]
   by_cases h:c=47
   ·rw[bS,if_pos h,ih]
    conv=>rhs;rw[bS,if_pos h]
    rfl
   ·cases hs:bS a with
    | nil=>exact absurd hs (kU a)
    | cons x t =>
      rw[hs] at ih
      rw[gL h hs,gL h (by rw[ih];rfl)]
      rfl
theorem qV(p:List UInt8)(hp:p.length≤4096):gW (p,())=some ((aJ p).1,((aJ p).2,())):=by
 unfold gW
 dsimp only
 rw[fF p (by omega),aa]
 by_cases h0:p=[]
 ·subst h0;rfl
 have TJ:parts p=bS p:=by unfold parts;rw[if_neg h0]
 rcases iW p with ⟨h1,h2⟩|⟨a,b,rfl,h1,h2⟩
 ·rw[h2,TJ,kV p h1]
  dsimp only
  have e1:kO (sub [p] 0 (minus (cM .i64 (len [p]) 1) 0),())=some ([],()):=by
   have e:sub [p] 0 (minus (cM .i64 (len [p]) 1) 0)=[]:=rfl
   rw[e]
   exact wR [] (by simp) (by simp[az])
  rw[show bp (len [p]) 0=false from rfl,ag,show inside 0 (cM .i64 (len [p]) 1) (len [p])=true from rfl,af,e1,aa]
  rfl
 ·rw[h2,TJ,sR a b h1]
  dsimp only
  have hl:=yC a
  rw[List.length_append] at hp
  simp only[List.length_cons] at hp
  have e1:cM .i64 (len (bS a++[b])) 1=(((bS a).length:Nat):Int):=by
   rw[cN,List.length_append,nM (by simp only[List.length_cons,List.length_nil];omega) (by simp only[List.length_cons,List.length_nil];omega)]
   simp only[List.length_cons,List.length_nil];omega
  rw[e1,b7 (by rw[cN,List.length_append];simp only[List.length_cons,List.length_nil];omega),ag,bA (by omega) (by omega) (by rw[cN,List.length_append];omega),af,lM,List.take_left,
   wR _ (by omega) (by rw[qU];omega),qU,aa,uV]
  simp[ah]
def gM(d n:List UInt8):List UInt8:=if d=[]∨n=[] then d++n else d++47::n
theorem xX(d n:List UInt8)(hd:d.length≤1048576)(hn:n.length≤1048576):je (d,(n,()))=some (gM d n,()):=by
 unfold je gM
 dsimp only
 by_cases a:d=[]
 ·rw[cI a,aT,ag,af,bw (by omega),af,if_pos (.inl a)];rfl
 ·rw[br a,aO,af]
  by_cases b:n=[]
  ·rw[cI b,af,bw (by omega),af,if_pos (.inr b)];rfl
  ·rw[br b,ag,bw (by simp only[List.length_cons,List.length_nil];omega),af,bw (by simp only[lf,List.length_append,List.length_cons,List.length_nil];omega),af,if_neg (by simp[a,b])]
   simp[app]
theorem u7(d n:List UInt8)(hd:d.length≤1048576)(hn:n.length≤1048576):kP (d,(n,()))=some (gM d n,()):=by
 unfold kP gM
 dsimp only
 by_cases a:d=[]
 ·rw[cI a,af,if_pos (.inl a),a];rfl
 ·rw[br a,ag]
  by_cases b:n=[]
  ·rw[cI b,af,if_pos (.inr b),b,List.append_nil]
  ·rw[br b,ag,bw (by simp only[List.length_cons,List.length_nil];omega),af,bw (by simp only[lf,List.length_append,List.length_cons,List.length_nil];omega),af,if_neg (by simp[a,b])]
   simp[app]
def bM(x y:List (List UInt8)):Bool:=decide (y.length<x.length∧x.take y.length=y)
theorem HX{α:Type}[DecidableEq α](Q:Nat→Nat→Nat×(Bool×Int×Unit)×Unit)(hQ:∀i j,(Q i j).1=j∧(Q i j).2.1.1=false):∀(r:List (α×α)) (i:Nat),∃q,uy (fun i (_:Unit) p=>some (if p.1=p.2 then Sum.inl () else Sum.inr (Q i 1))) (fun i _=>Q i 0) r i ()=some q ∧
  q.1=(if r.all (fun p=>decide (p.1=p.2))=true then 0 else 1)∧q.2.1.1=false:=by
 intro r
 induction r with
 | nil=>intro i;exact⟨_,rfl,(hQ _ _).1,(hQ _ _).2⟩
 | cons p r ih =>
   intro i
   unfold uy
   by_cases h:p.1=p.2
   ·simp only[if_pos h]
    obtain⟨q,h1,h2,h3⟩:=ih (i+1)
    exact⟨q,h1,by rw[h2,List.all_cons,decide_eq_true h,Bool.true_and],h3⟩
   ·simp only[if_neg h]
    exact⟨_,rfl,by rw[(hQ _ _).1,List.all_cons,decide_eq_false h,Bool.false_and,if_neg (by simp)],(hQ _ _).2⟩
theorem Px(x y:List (List UInt8))(hx:x.length≤1048576)(hy:y.length≤1048576):dH (x,(y,()))=some (decide (x=y),()):=by
 unfold dH
 dsimp only
 rw[K3]
 by_cases hl:x.length=y.length
 ·rw[decide_eq_true hl,aT,ag]
  have key:=pY (f:=cu (x,(y,()))) (x.zip y) (fun(_:Unit) i=>((false,((i:Int),())),()))
   (fun i _ p=>some (if p.1=p.2 then .inl () else .inr (1,((false,((i:Int),())),())))) (fun i _=>(0,((false,((i:Int),())),()))) (fun _ _=>True)
   (fun u i p hp hi _=>by
    obtain⟨h1,h2⟩:=RL hp
    have Xb:=bB h1
    unfold cu
    dsimp only
    rw[aF (bB h1),af,aK h1,aa,aK h2,aa]
    by_cases e:p.1=p.2
    ·rw[cI e,aT,ag,bI (by omega),if_pos e];rfl
    ·rw[br e,aO,af,if_neg e];rfl)
   (fun _ _ _ _ _ _ _=>trivial)
   (fun u _=>by
    have e:(x.zip y).length=x.length:=by rw[List.length_zip,hl,Nat.min_self]
    unfold cu
    dsimp only
    rw[e,aS,ag])
   (fun _ _ _ _ _ h=>by cases h) () trivial
  obtain⟨q,h1,h2,h3⟩:=HX (fun i j=>(j,((false,((i:Int),())),()))) (fun _ _=>⟨rfl,rfl⟩) (x.zip y) 0
  have key':Loop (cu (x,(y,()))) ((false,((0:Int),())),())=some q:=key.trans h1
  rw[key',aa,h2,h3,Jl hl]
  by_cases e:x=y
  ·rw[decide_eq_true e,if_pos rfl,dN,af]
  ·rw[decide_eq_false e,if_neg (by simp),gK,ag]
 ·rw[decide_eq_false hl,aO,af,decide_eq_false (fun e=>hl (by rw[e]))]
theorem uA(p d:List UInt8)(hp:p.length≤4096)(hd:d.length≤4096):cB (p,(d,()))=some (bM (parts p) (parts d),()):=by
 unfold cB bM
 dsimp only
 have h1:=dJ p
 have h2:=dJ d
 rw[mK p (by omega),aa,mK d (by omega),aa]
 dsimp only
 rw[AJ]
 by_cases h:(parts d).length<(parts p).length
 ·rw[decide_eq_true h,af,show inside 0 (len (parts d)) (len (parts p))=true from bA (by decide) (by rw[cN];omega) (by rw[cN,cN];omega),af,xV,Px _ _ (by rw[List.length_take];omega) (by omega),aa,aa]
  simp[h]
 ·rw[decide_eq_false h,ag,aa]
  simp[h]
theorem Ju(p d:List UInt8)(hp:p.length≤4096)(hd:d.length≤4096):pq (p,(d,()))=some (bM (parts p) (parts d),()):=by
 unfold pq bM
 dsimp only
 have h1:=dJ p
 have h2:=dJ d
 rw[fF p (by omega),aa,fF d (by omega),aa]
 dsimp only
 rw[E8]
 generalize parts p=x at h1
 generalize parts d=y at h2
 by_cases h:y.length<x.length
 ·rw[decide_eq_false (by omega),ag]
  have e:(x.zip y).length=y.length:=by rw[List.length_zip];omega
  have key:=pY (f:=iD (x,()) (y,())) (x.zip y) (fun(_:Unit) i=>((false,((i:Int),())),()))
   (fun i _ p=>some (if p.1=p.2 then .inl () else .inr (1,((false,((i:Int),())),())))) (fun i _=>(0,((false,((i:Int),())),()))) (fun _ _=>True)
   (fun u i p hp hi _=>by
    obtain⟨h1,h2⟩:=RL hp
    have Xb:=bB h1
    unfold iD
    dsimp only
    rw[aF (bB h1),aF (bB h2),af,af,aK h1,aa,aK h2,aa]
    by_cases e:p.1=p.2
    ·rw[cI e,aT,ag,bI (by omega),if_pos e];rfl
    ·rw[br e,aO,af,if_neg e];rfl)
   (fun _ _ _ _ _ _ _=>trivial)
   (fun u _=>by
    unfold iD
    dsimp only
    rw[e,aS,ag,ag])
   (fun _ _ _ _ _ h=>by cases h) () trivial
  obtain⟨q,k1,k2,k3⟩:=HX (fun i j=>(j,((false,((i:Int),())),()))) (fun _ _=>⟨rfl,rfl⟩) (x.zip y) 0
  have key':Loop (iD (x,()) (y,())) ((false,((0:Int),())),())=some q:=key.trans k1
  rw[key',aa,k2,k3,K6,show min x.length y.length=y.length by omega,List.take_length]
  by_cases a:x.take y.length=y
  ·rw[decide_eq_true a,if_pos rfl,dN,af];simp[h,a]
  ·rw[decide_eq_false a,if_neg (by simp),gK,ag];simp[a]
 ·rw[decide_eq_true (by omega),af]
  simp[h]
theorem HY(x:List UInt8):fR (x,())=some (false,()):=by
 unfold fR
 rw[rS];rfl
theorem RU(x y:List UInt8):gG (x,(y,()))=some (Jk x y,()):=by
 unfold gG Jk
 dsimp only
 rw[HY,aa,HY,aa]
 dsimp only
 rw[ag,ag,RJ]
 rcases DY x y with h|rfl|h
 ·rw[h,af,if_pos rfl]
 ·rw[oJ,ag,ag,if_neg (by simp),if_pos rfl]
 ·rw[rA h,ag,h,af,if_neg (by simp),if_neg (fun e=>Fb h e.symm)]
theorem wT(a b:List UInt8)(ha:a.length≤4096)(hb:b.length≤4096):e9 (a,(b,()))=some (cmpL (parts a) (parts b),()):=by
 unfold e9
 dsimp only
 have h1:=dJ a
 have h2:=dJ b
 rw[mK a (by omega),aa,mK b (by omega),aa]
 generalize parts a=x at h1
 generalize parts b=y at h2
 have run:∀(n i:Nat),x.length-i≤n→i≤x.length→i≤y.length→x.take i=y.take i→∃q,Loop (cD (x,()) (y,())) ((0,((i:Int),())),())=some q ∧
   (if q.1=0 then x.length≤y.length∧cmpL (x.drop i) (y.drop i)=(if x.length<y.length then -1 else 0) else q.1=1∧q.2.1.1=cmpL (x.drop i) (y.drop i)):=by
  intro n
  induction n with
  | zero =>
    intro i hn hx hy ht
    obtain rfl:i=x.length:=by omega
    refine⟨(0,((0,((x.length:Int),())),())),?_,?_⟩
    ·rw[bH]
     have:cD (x,()) (y,()) ((0,((x.length:Int),())),())=some (.inr (0,((0,((x.length:Int),())),()))):=by
      unfold cD
      dsimp only
      rw[aS,ag]
     rw[this];rfl
    ·rw[if_pos rfl]
     refine⟨hy,?_⟩
     rw[List.drop_length]
     by_cases h:x.length<y.length
     ·rw[if_pos h]
      cases hd:y.drop x.length with
      | nil=>have:=congrArg List.length hd;rw[List.length_drop] at this;simp only[List.length_nil] at this;omega
      | cons b r=>rfl
     ·rw[if_neg h,List.drop_of_length_le (by omega)];rfl
  | succ n ih =>
    intro i hn hx hy ht
    by_cases hi:i<x.length
    ·obtain⟨u,hu⟩:∃u,x[i]?=some u:=⟨_,List.getElem?_eq_getElem hi⟩
     obtain⟨hu1,VV⟩:=List.getElem?_eq_some_iff.1 hu
     have dx:x.drop i=u::x.drop (i+1):=by rw[List.drop_eq_getElem_cons hi,VV]
     rw[bH]
     by_cases hj:i<y.length
     ·obtain⟨v,hv⟩:∃v,y[i]?=some v:=⟨_,List.getElem?_eq_getElem hj⟩
      obtain⟨hv1,Gi⟩:=List.getElem?_eq_some_iff.1 hv
      have dy:y.drop i=v::y.drop (i+1):=by rw[List.drop_eq_getElem_cons hj,Gi]
      have st:cD (x,()) (y,()) ((0,((i:Int),())),())=if u=v then some (.inl ((0,(((i+1:Nat):Int),())),())) else some (.inr (1,((Jk u v,((i:Int),())),()))):=by
       unfold cD
       dsimp only
       rw[aF hi,af,aK hu,aa,u5,decide_eq_false (by omega),ag,aK hv,aa,RU,aa]
       dsimp only
       by_cases e:u=v
       ·rw[if_pos e,show Jk u v=0 by unfold Jk;rw[e,oJ,if_neg (by simp),if_pos rfl],show nt (bp 0 0)=false from rfl,ag,bI (by omega)]
       ·rw[if_neg e,show bp (Jk u v) 0=false from b7 (by unfold Jk;split<;>(try split)<;>first|decide|exact absurd (by assumption) e),aO,af]
      rw[st,dx,dy,cmpL]
      by_cases e:u=v
      ·rw[if_pos e,if_pos e]
       exact ih (i+1) (by omega) (by omega) (by omega) (by rw[List.take_add_one,List.take_add_one,hu,hv,ht,e])
      ·rw[if_neg e,if_neg e]
       refine⟨_,rfl,?_⟩
       rw[if_neg (by simp)]
       refine⟨rfl,?_⟩
       show Jk u v=_
       unfold Jk
       rw[if_neg e]
     ·have st:cD (x,()) (y,()) ((0,((i:Int),())),())=some (.inr (1,((1,((i:Int),())),()))):=by
       unfold cD
       dsimp only
       rw[aF hi,af,aK hu,aa,u5,decide_eq_true (by omega),af]
      rw[st]
      refine⟨_,rfl,?_⟩
      rw[if_neg (by simp),dx,show y.drop i=[] from List.drop_of_length_le (by omega)]
      exact⟨rfl,rfl⟩
    ·exact ih i (by omega) hx hy ht
 obtain⟨q,k1,k2⟩:=run x.length 0 (by omega) (by omega) (by omega) rfl
 have S7:Loop (cD (x,()) (y,())) ((0,((0:Int),())),())=some q:=k1
 rw[S7,aa]
 rw[List.drop_zero,List.drop_zero] at k2
 by_cases h:q.1=0
 ·rw[if_pos h] at k2
  rw[h,dN,af,AJ,k2.2]
  by_cases l:x.length<y.length
  ·rw[decide_eq_true l,af,if_pos l]
  ·rw[decide_eq_false l,ag,if_neg l]
 ·rw[if_neg h] at k2
  rw[k2.1,gK,ag,k2.2]
theorem wU(a b:List UInt8)(ha:a.length≤4096)(hb:b.length≤4096):jq (a,(b,()))=some (cmpL (parts a) (parts b),()):=by
 unfold jq
 dsimp only
 have h1:=dJ a
 have h2:=dJ b
 rw[fF a (by omega),aa,fF b (by omega),aa]
 generalize parts a=x at h1
 generalize parts b=y at h2
 have run:∀(n i:Nat),x.length-i≤n→i≤x.length→i≤y.length→∃q,Loop (cE (x,()) (y,())) ((0,((i:Int),())),())=some q ∧
   (if q.1=0 then cmpL (x.drop i) (y.drop i)=(if x.length<y.length then -1 else if y.length<x.length then 1 else 0) else q.1=1∧q.2.1.1=cmpL (x.drop i) (y.drop i)):=by
  intro n
  induction n with
  | zero =>
    intro i hn hx hy
    obtain rfl:i=x.length:=by omega
    refine⟨(0,((0,((x.length:Int),())),())),?_,?_⟩
    ·rw[bH]
     have:cE (x,()) (y,()) ((0,((x.length:Int),())),())=some (.inr (0,((0,((x.length:Int),())),()))):=by
      unfold cE
      dsimp only
      rw[aS,ag,ag]
     rw[this];rfl
    ·rw[if_pos rfl,List.drop_length]
     by_cases h:x.length<y.length
     ·rw[if_pos h]
      cases hd:y.drop x.length with
      | nil=>have:=congrArg List.length hd;rw[List.length_drop] at this;simp only[List.length_nil] at this;omega
      | cons b r=>rfl
     ·rw[if_neg h,List.drop_of_length_le (by omega),if_neg (by omega)];rfl
  | succ n ih =>
    intro i hn hx hy
    by_cases hi:i<x.length
    ·obtain⟨u,hu⟩:∃u,x[i]?=some u:=⟨_,List.getElem?_eq_getElem hi⟩
     obtain⟨hu1,VV⟩:=List.getElem?_eq_some_iff.1 hu
     have dx:x.drop i=u::x.drop (i+1):=by rw[List.drop_eq_getElem_cons hi,VV]
     rw[bH]
     by_cases hj:i<y.length
     ·obtain⟨v,hv⟩:∃v,y[i]?=some v:=⟨_,List.getElem?_eq_getElem hj⟩
      obtain⟨hv1,Gi⟩:=List.getElem?_eq_some_iff.1 hv
      have dy:y.drop i=v::y.drop (i+1):=by rw[List.drop_eq_getElem_cons hj,Gi]
      have st:cE (x,()) (y,()) ((0,((i:Int),())),())=if u=v then some (.inl ((0,(((i+1:Nat):Int),())),())) else some (.inr (1,((if vu u v=true then -1 else 1,((i:Int),())),()))):=by
       unfold cE
       dsimp only
       rw[aF hi,aF hj,af,af,aK hu,aa,aK hv,aa,aa,aa,RJ]
       rcases DY u v with h|rfl|h
       ·rw[h,af,if_neg (Fb h),if_pos rfl]
       ·rw[oJ,ag,ag,if_pos rfl,bI (by omega)]
       ·rw[rA h,ag,h,af,if_neg (fun e=>Fb h e.symm),if_neg (by simp)]
      rw[st,dx,dy,cmpL]
      by_cases e:u=v
      ·rw[if_pos e,if_pos e]
       exact ih (i+1) (by omega) (by omega) (by omega)
      ·rw[if_neg e,if_neg e]
       refine⟨_,rfl,?_⟩
       rw[if_neg (by simp)]
       exact⟨rfl,rfl⟩
     ·have st:cE (x,()) (y,()) ((0,((i:Int),())),())=some (.inr (0,((0,((i:Int),())),()))):=by
       unfold cE
       dsimp only
       rw[aF hi,DX,decide_eq_false hj,af,ag]
      rw[st]
      refine⟨_,rfl,?_⟩
      rw[if_pos rfl,dx,show y.drop i=[] from List.drop_of_length_le (by omega),if_neg (by omega),if_pos (by omega)]
      rfl
    ·exact ih i (by omega) hx hy
 obtain⟨q,k1,k2⟩:=run x.length 0 (by omega) (by omega) (by omega)
 have S7:Loop (cE (x,()) (y,())) ((0,((0:Int),())),())=some q:=k1
 rw[S7,aa]
 rw[List.drop_zero,List.drop_zero] at k2
 by_cases h:q.1=0
 ·rw[if_pos h] at k2
  rw[h,dN,af,AJ,AJ,k2]
  by_cases l:x.length<y.length
  ·rw[decide_eq_true l,af,if_pos l]
  ·rw[decide_eq_false l,ag,if_neg l]
   by_cases m:y.length<x.length
   ·rw[decide_eq_true m,af,if_pos m]
   ·rw[decide_eq_false m,ag,if_neg m]
 ·rw[if_neg h] at k2
  rw[k2.1,gK,ag,k2.2]
end Go.Ge
namespace Go.Ge
set_option linter.unusedVariables false
set_option linter.unusedSimpArgs false
theorem CK(s p:List UInt8):bT (s,(p,()))=some (decide (s.take p.length=p),()):=by
 unfold bT
 dsimp only
 rw[E8]
 by_cases h:p.length≤s.length
 ·rw[decide_eq_true h,af,show inside 0 (len p) (len s)=true from bA (by decide) (by rw[cN];omega) (by rw[cN,cN];omega),af,xV,aa]
  rfl
 ·rw[decide_eq_false h,ag,aa,decide_eq_false]
  intro e
  have:=congrArg List.length e
  rw[List.length_take] at this
  omega
theorem Nz(s p:List UInt8):dA (s,(p,()))=some (decide (s.take p.length=p),()):=by
 unfold dA
 dsimp only
 rw[CK,aa]
theorem Fi(s p:List UInt8):kg (s,(p,()))=some (decide (s.take p.length=p),()):=by
 unfold kg
 dsimp only
 rw[E8]
 by_cases h:p.length≤s.length
 ·rw[decide_eq_true h,af,show inside 0 (len p) (len s)=true from bA (by decide) (by rw[cN];omega) (by rw[cN,cN];omega),af,xV,aa]
  rfl
 ·rw[decide_eq_false h,ag,aa,decide_eq_false]
  intro e
  have:=congrArg List.length e
  rw[List.length_take] at this
  omega
theorem RV(s p:List UInt8):iq (s,(p,()))=some (if s.take p.length=p then(s.drop p.length,(true,())) else(s,(false,()))):=by
 unfold iq ef
 dsimp only
 rw[CK,aa]
 dsimp only
 by_cases h:s.take p.length=p
 ·have hl:p.length≤s.length:=by
   have:=congrArg List.length h
   rw[List.length_take] at this
   omega
  rw[decide_eq_true h,aT,ag,show inside (len p) (len s) (len s)=true from bA (by rw[cN];omega) (by rw[cN,cN];omega) (Int.le_refl _),af,aa,if_pos h]
  rw[show sub s (len p) (minus (len s) (len p))=s.drop p.length from pZ s p.length hl]
 ·rw[decide_eq_false h,aO,af,aa,if_neg h]
theorem G3(l:List (List UInt8))(s:List UInt8)(hl:l.length≤1048576):cW (l,(s,()))=some (decide (s∈l),()):=by
 unfold cW e7
 dsimp only
 have key:=pY (f:=ct (l,(s,()))) l (fun(_:Unit) i=>((0,((i:Int),())),()))
  (fun i _ x=>some (if s=x then .inr (1,(((i:Int),((i:Int),())),())) else .inl ())) (fun i _=>(0,((0,((i:Int),())),()))) (fun _ _=>True)
  (fun u i x hx hi _=>by
   unfold ct
   dsimp only
   rw[aF hi,af,aK hx,aa]
   by_cases e:s=x
   ·rw[cI e,af,if_pos e];rfl
   ·rw[br e,ag,if_neg e,bI (by omega)];rfl)
  (fun _ _ _ _ _ _ _=>trivial)
  (fun u _=>by
   unfold ct
   dsimp only
   rw[aS,ag])
  (fun _ _ _ _ _ h=>by cases h) () trivial
 have run:∀(r:List (List UInt8)) (i:Nat),∃q,uy (fun i (_:Unit) x=>some (if s=x then Sum.inr (1,(((i:Int),((i:Int),())),())) else Sum.inl ())) (fun i _=>((0:Nat),(((0:Int),((i:Int),())),()))) r i ()=some q ∧
   (if s∈r then q.1=1∧0≤q.2.1.1 else q.1=0):=by
  intro r
  induction r with
  | nil=>intro i;exact⟨_,rfl,by simp⟩
  | cons x r ih =>
    intro i
    unfold uy
    by_cases h:s=x
    ·simp only[if_pos h]
     refine⟨_,rfl,?_⟩
     rw[if_pos (by rw[h];exact List.mem_cons_self ..)]
     exact⟨rfl,by simp⟩
    ·simp only[if_neg h]
     obtain⟨q,h1,h2⟩:=ih (i+1)
     refine⟨q,h1,?_⟩
     by_cases hm:s∈r
     ·rw[if_pos (List.mem_cons_of_mem _ hm)];rw[if_pos hm] at h2;exact h2
     ·rw[if_neg (by simp[h,hm])];rw[if_neg hm] at h2;exact h2
 obtain⟨q,h1,h2⟩:=run l 0
 have key':Loop (ct (l,(s,()))) ((0,((0:Int),())),())=some q:=key.trans h1
 rw[key',aa]
 by_cases h:s∈l
 ·rw[if_pos h] at h2
  rw[h2.1,gK,ag,aa,decide_eq_true h]
  dsimp only
  rw[eF h2.2]
 ·rw[if_neg h] at h2
  rw[h2,dN,af,aa,decide_eq_false h]
  rfl
def wh:List UInt8:=[46,119,104,46]
def fV(n:List UInt8):Int×List UInt8 :=
 if n.take 4=wh then(if n.drop 4=[46,119,104,46,46,111,112,113] then(2,[]) else if(n.drop 4).take 4=wh∨n.drop 4=[]∨n.drop 4=[46]∨n.drop 4=[46,46] then(3,[]) else(1,n.drop 4)) else(0,n)
theorem Lj(n:List UInt8):nB (n,())=some ((fV n).1,((fV n).2,())):=by
 unfold nB fV
 dsimp only
 rw[show([46,119,104,46]:List UInt8)=wh from rfl,RV,aa,show wh.length=4 from rfl]
 by_cases h:n.take 4=wh
 ·have e:n=wh++n.drop 4:=by rw[←h,List.take_append_drop]
  rw[if_pos h,if_pos h]
  dsimp only
  rw[aT,ag]
  generalize n.drop 4=r at e
  by_cases h1:r=[46,119,104,46,46,111,112,113]
  ·rw[if_pos h1,cI (by rw[e,h1];rfl),af]
  ·rw[if_neg h1,br (by rw[e];intro q;exact h1 (by simpa [wh] using q)),ag,Nz,aa]
   dsimp only
   rw[show wh.length=4 from rfl]
   by_cases h2:r.take 4=wh
   ·rw[if_pos (.inl h2),decide_eq_true h2,aT,ag,aa,af]
   ·rw[decide_eq_false h2,aO,af,G3 _ _ (by decide),aa,aa,E9]
    have:r∈([[],[46],[46,46]]:List (List UInt8))↔(r=[]∨r=[46]∨r=[46,46]):=by simp
    by_cases h3:r=[]∨r=[46]∨r=[46,46]
    ·rw[if_pos (this.2 h3),if_pos (.inr h3)]
    ·rw[if_neg (fun q=>h3 (this.1 q)),if_neg (fun q=>q.elim h2 h3)]
 ·rw[if_neg h,if_neg h]
  rfl
theorem CL(n:List UInt8):nD (n,())=some ((fV n).1,((fV n).2,())):=by
 unfold nD fV
 dsimp only
 rw[Fi,Fi]
 by_cases h:n.take 4=wh
 ·have e:n=wh++n.drop 4:=by rw[←h,List.take_append_drop]
  rw[if_pos h]
  generalize hr:n.drop 4=r at e
  by_cases h1:r=[46,119,104,46,46,111,112,113]
  ·rw[if_pos h1,cI (by rw[e,h1];rfl),af]
  ·rw[if_neg h1,br (by rw[e];intro q;exact h1 (by simpa [wh] using q)),ag,aa]
   dsimp only
   have a1:decide (n.take ([46,119,104,46,46,119,104,46]:List UInt8).length=[46,119,104,46,46,119,104,46])=decide (r.take 4=wh):=by
    rw[e]
    apply decide_eq_decide.2
    simp[wh]
   have a2:bZ n [46,119,104,46]=decide (r=[]):=by
    rw[e]
    unfold bZ
    apply decide_eq_decide.2
    simp[wh]
   have a3:bZ n [46,119,104,46,46]=decide (r=[46]):=by
    rw[e]
    unfold bZ
    apply decide_eq_decide.2
    simp[wh]
   have a4:bZ n [46,119,104,46,46,46]=decide (r=[46,46]):=by
    rw[e]
    unfold bZ
    apply decide_eq_decide.2
    simp[wh]
   have a5:decide (n.take ([46,119,104,46]:List UInt8).length=[46,119,104,46])=true:=decide_eq_true h
   rw[a1,a2,a3,a4,a5]
   have hs:au (au (nt (au (nt (au (nt (decide (r.take 4=wh))) (decide (r=[])) true)) (decide (r=[46])) true)) (decide (r=[46,46])) true)=fun(x y:Option (Int×List UInt8×Unit))=>if r.take 4=wh∨r=[]∨r=[46]∨r=[46,46] then x else y:=by
    funext x y
    by_cases b1:r.take 4=wh
    ·rw[if_pos (.inl b1)];simp[b1,au,nt]
    ·by_cases b2:r=[]
     ·rw[if_pos (.inr (.inl b2))];simp[b2,au,nt]
     ·by_cases b3:r=[46]
      ·rw[if_pos (.inr (.inr (.inl b3)))];simp[b3,au,nt]
      ·by_cases b4:r=[46,46]
       ·rw[if_pos (.inr (.inr (.inr b4)))];simp[b4,au,nt]
       ·rw[if_neg (by simp[b1,b2,b3,b4])];simp[b1,b2,b3,b4,au,nt]
   rw[hs]
   dsimp only
   by_cases b:r.take 4=wh∨r=[]∨r=[46]∨r=[46,46]
   ·rw[if_pos b,if_pos b]
   ·rw[if_neg b,if_neg b,aa]
    dsimp only
    have hl:4≤n.length:=by rw[e];simp[wh]
    rw[af,show inside 4 (len n) (len n)=true from bA (by decide) (by rw[cN];omega) (Int.le_refl _),af,show sub n 4 (minus (len n) 4)=n.drop 4 from pZ n 4 hl,hr]
 ·rw[if_neg h]
  have n1:n≠[46,119,104,46,46,119,104,46,46,111,112,113]:=fun q=>h (by rw[q];rfl)
  have n2:n≠[46,119,104,46]:=fun q=>h (by rw[q];rfl)
  have n3:n≠[46,119,104,46,46]:=fun q=>h (by rw[q];rfl)
  have n4:n≠[46,119,104,46,46,46]:=fun q=>h (by rw[q];rfl)
  have n5:¬n.take ([46,119,104,46,46,119,104,46]:List UInt8).length=[46,119,104,46,46,119,104,46]:=fun q=>h (by
   have:=congrArg (List.take 4) q
   rw[List.take_take] at this
   exact this)
  rw[br n1,ag,aa]
  dsimp only
  rw[decide_eq_false n5,br n2,br n3,br n4]
  rw[show au (au (nt (au (nt (au (nt false) false true)) false true)) false true)=fun(x y:Option (Int×List UInt8×Unit))=>y from rfl]
  dsimp only
  rw[aa]
  dsimp only
  rw[decide_eq_false (by exact h),ag]
theorem lW{a b:Bool}:au a b false=(a&&b):=by cases a<;>rfl
theorem Py{s:List UInt8}(h:(iN s).2=0):fG s=true∧(iN s).1=az (names s):=by
 unfold iN at h⊢
 cases hc:fG s with
 | true=>simp
 | false=>rw[hc] at h;simp at h
theorem mL{s:List UInt8}(h:fG s=true):(names s).all gp=true∧(names s).length≤8∧(az (names s)).length≤96:=by
 unfold fG at h
 simp only[Bool.and_eq_true,decide_eq_true_eq] at h
 exact⟨h.1.1.1,h.1.2,h.2⟩
theorem Fj{l:List (List UInt8)}(h:∀x∈l,47∉x∧x≠[]):(az l).head?≠some 47:=by
 cases l with
 | nil=>simp[az]
 | cons x r =>
   obtain⟨h1,h2⟩:=h x (List.mem_cons_self ..)
   have e:(az (x::r)).head?=x.head?:=by
    cases x with
    | nil=>exact absurd rfl h2
    | cons b x=>cases r<;>simp[az]
   rw[e]
   cases x with
   | nil=>exact absurd rfl h2
   | cons b x =>
     intro q
     have:b=47:=Option.some.inj q
     exact h1 (by rw[this];exact List.mem_cons_self ..)
theorem r9(l:List (List UInt8))(a:List (List UInt8))(h:∀x∈a++l,47∉x∧x≠[]):l.foldl gM (az a)=az (a++l):=by
 induction l generalizing a with
 | nil=>simp
 | cons x r ih =>
   have hx:=h x (by simp)
   have e:gM (az a) x=az (a++[x]):=by
    unfold gM
    cases a with
    | nil=>rw[az,if_pos (.inl rfl)];rfl
    | cons y q =>
      have hne:az (y::q)≠[]:=by
       have:=(h y (by simp)).2
       cases q with
       | nil=>rw[az];exact this
       | cons z q=>rw[az];simp
      rw[if_neg (by simp[hne,hx.2])]
      have gen:∀(y:List UInt8) (q:List (List UInt8)),az (y::q++[x])=az (y::q)++47::x:=by
       intro y q
       induction q generalizing y with
       | nil=>rfl
       | cons z q ih2 =>
         rw[List.cons_append,List.cons_append,az,←List.cons_append,ih2 z]
         rw[az]
         simp
      exact(gen y q).symm
   rw[List.foldl_cons,e,ih (a++[x]) (by intro z hz;exact h z (by simpa using hz))]
   simp
theorem wW{l:List (List UInt8)}(h:∀x∈l,47∉x∧x≠[])(hne:l≠[]):aJ (az l)=(az l.dropLast,l.getLast hne):=by
 have hs:bS (az l)=l:=AQ l hne fun x hx=>(h x hx).1
 rcases iW (az l) with ⟨h1,h2⟩|⟨a,b,h0,h1,h2⟩
 ·rw[kV _ h1] at hs
  rw[h2]
  generalize az l=p at hs
  subst hs
  rfl
 ·rw[h2]
  rw[h0,sR a b h1] at hs
  subst hs
  rw[List.dropLast_concat,List.getLast_concat,qU]
end Go.Ge
namespace Go.Ge
set_option linter.unusedVariables false
set_option linter.unusedSimpArgs false
abbrev Nd:=List UInt8×Int×Int×List UInt8×List UInt8×Unit
theorem DZ{a b:Int}:(gj a b=true)↔a≤b:=by
 constructor
 ·intro h
  rcases Int.lt_or_le b a with g|g
  ·rw[kT g] at h;cases h
  ·exact g
 ·exact eF
theorem qW{a b:Int}:gj a b=decide (a≤b):=by
 rw[Bool.eq_iff_iff,DZ,decide_eq_true_eq]
theorem NA{p:List UInt8}(hp:p≠[]):((iN p).2=0∧(iN p).1=p)↔((parts p).all gp=true∧(parts p).length≤8∧p.length≤96):=by
 constructor
 ·rintro⟨h1,h2⟩
  obtain⟨h3,h4⟩:=Py h1
  obtain⟨h5,h6,h7⟩:=mL h3
  have e:az (names p)=p:=by rw[←h4,h2]
  have e2:parts p=names p:=by
   have:=CJ p
   rw[e] at this
   exact this
  rw[e2]
  refine⟨h5,h6,?_⟩
  rw[e] at h7
  exact h7
 ·rintro⟨h1,h2,h3⟩
  have hk:∀x∈parts p,ic x=true:=fun x hx=>by
   have:=List.all_eq_true.1 h1 x hx
   unfold gp at this
   have:=of_decide_eq_true this
   unfold ic
   refine decide_eq_true ⟨fun e=>?_,this.1⟩
   subst e
   exact absurd this.2.2.1 (by decide)
  have hn:names p=parts p:=List.filter_eq_self.2 hk
  have hj:az (names p)=p:=by rw[hn,bC]
  have hh:p.head?≠some 47:=by
   rw[←hj]
   exact Fj fun x hx=>⟨(rB p x hx).1,(rB p x hx).2.1⟩
  have hc:fG p=true:=by
   unfold fG
   rw[hj,hn]
   simp[h1,h2,h3,hh]
  unfold iN
  rw[if_pos hc]
  exact⟨rfl,hj⟩
def nN(p:List UInt8):Bool:=decide (p≠[])&&(parts p).all gp&&decide ((parts p).length≤8)&&decide (p.length≤92)&&decide ((aJ p).2.length≤28)&&decide ((fV (aJ p).2).1=0)
theorem NB(p:List UInt8)(hp:p.length≤4096):pz (p,())=some (nN p,()):=by
 unfold pz
 dsimp only
 rw[HW p hp,aa,kD p (by omega),aa]
 dsimp only
 rw[Lj,aa]
 dsimp only
 rw[lW,lW,lW,lW,lW]
 congr 2
 rw[Bool.eq_iff_iff]
 unfold nN
 by_cases h0:p=[]
 ·subst h0;simp[bZ,nt]
 ·have hc:=NA h0
  simp only[Bool.and_eq_true,decide_eq_true_eq,bp,bZ,WI,DZ,len,Bool.not_eq_true',decide_eq_false_iff_not]
  constructor
  ·rintro⟨⟨⟨⟨a1,a2⟩,a3⟩,a4,a5⟩,a6⟩
   obtain⟨b1,b2,b3⟩:=hc.1 ⟨a1,a2⟩
   exact⟨⟨⟨⟨⟨h0,b1⟩,b2⟩,by omega⟩,by omega⟩,a6⟩
  ·rintro⟨⟨⟨⟨⟨_,b1⟩,b2⟩,b3⟩,b4⟩,b5⟩
   obtain⟨a1,a2⟩:=hc.2 ⟨b1,b2,by omega⟩
   exact⟨⟨⟨⟨a1,a2⟩,h0⟩,by omega,by omega⟩,b5⟩
def CN(n:Nd):Bool:=if n.2.1=1 then decide (n.2.2.2.2.1=[]∧n.2.2.2.1.length≤8192) else if n.2.1=2 then decide (n.2.2.2.2.1=[]∧n.2.2.2.1=[]) else if n.2.1=3 then decide (n.2.2.2.1=[]∧n.2.2.2.2.1≠[]∧n.2.2.2.2.1.length≤100∧0∉n.2.2.2.2.1) else false
def dK(n:Nd):Bool:=nN n.1&&decide (0≤n.2.2.1)&&decide (n.2.2.1≤4095)&&CN n
theorem G4(s:List UInt8)(c:UInt8):cv (s,(u8 c,()))=some (Lib.indexByte s c,()):=by
 have:(show Int from u8 c).toNat.toUInt8=c:=by simp[u8]
 unfold cv ec
 dsimp only
 rw[this]
 rfl
theorem Ou(n:Nd)(hp:n.1.length≤4096):uu (n,())=some (dK n,()):=by
 obtain⟨p,k,m,d,l,u⟩:=n
 unfold uu dK CN
 dsimp only
 rw[NB p hp,aa]
 dsimp only
 have e1:cm m 0=!decide (0≤m):=by unfold cm;by_cases h:m<0<;>simp[h]<;>omega
 have e2:cm 4095 m=!decide (m≤4095):=by unfold cm;by_cases h:4095<m<;>simp[h]<;>omega
 rw[e1,e2]
 cases nN p with
 | false=>rfl
 | true =>
   cases decide (0≤m) with
   | false=>rfl
   | true =>
     cases decide (m≤4095) with
     | false=>rfl
     | true =>
       simp only[aT,aO,af,ag,Bool.not_true,Bool.true_and]
       by_cases k1:k=1
       ·subst k1
        simp only[bp,decide_true,af,if_true,bZ,qW,len,lW]
        congr 2
        rw[Bool.eq_iff_iff];simp;intro _;omega
       ·rw[show bp k 1=false by simp[bp,k1],ag,if_neg k1]
        by_cases k2:k=2
        ·subst k2
         simp only[bp,decide_true,af,if_true,bZ,qW,len,lW]
         congr 2
         rw[Bool.eq_iff_iff];simp
        ·rw[show bp k 2=false by simp[bp,k2],ag,if_neg k2]
         by_cases k3:k=3
         ·subst k3
          rw[show bp 3 3=true by rfl,af,if_pos rfl,lW,lW,show((l,((0:Int),())):List UInt8×Int×Unit)=(l,(u8 0,())) by rfl,G4,aa]
          dsimp only
          have e3:cm (Lib.indexByte l 0) 0=decide (0∉l):=yD l
          rw[e3]
          by_cases hd:d=[]
          ·by_cases hl:l=[]
           ·subst hd hl;rfl
           ·by_cases h1:l.length≤100
            ·simp[bZ,hd,hl,qW,len,nt,au,ah,h1,show(l.length:Int)≤100 by omega]
            ·simp[bZ,hd,hl,qW,len,nt,au,ah,h1,show ¬(l.length:Int)≤100 by omega]
          ·simp[bZ,hd,au,ah]
         ·rw[show bp k 3=false by simp[bp,k3],ag,if_neg k3]
theorem NC(s:List UInt8)(hs:s.length≤1048576):nF (s,())=some (decide (s≠[]∧s.length≤100∧0∉s),()):=by
 unfold nF
 rcases AM (f:=jO (s,())) s (fun i=>((false,(i,())),())) (fun _ x=>decide (x=0)) (fun i x=>(1,((false,((i:Int),())),()))) ((0:Nat),((false,((s.length:Int),())),())) (by omega) (fun i x hx hi ha=>by
  unfold jO
  dsimp only
  rw[aF hi,af,aK hx,aa,WS,Nr,ha]
  by_cases h0:x=0<;>simp[h0]) (by unfold jO;dsimp only;rw[aS,ag]) with ⟨i,x,hx,hp,_,h⟩|⟨hn,h⟩
 ·rw[h,aa,gK,ag]
  have:x=0:=of_decide_eq_true hp
  subst this
  have hm:(0:UInt8)∈s:=fE.2 ⟨i,hx⟩
  rw[decide_eq_false (by rintro⟨_,_,h⟩;exact h hm)]
 ·rw[h,aa,dN,af,lW]
  have hm:(0:UInt8)∉s:=fun hm=>by
   obtain⟨i,hi⟩:=fE.1 hm
   have:=hn i 0 hi
   exact absurd this (by decide)
  congr 2
  rw[Bool.eq_iff_iff]
  simp only[Bool.and_eq_true,DZ,len,decide_eq_true_eq]
  constructor
  ·rintro⟨h1,h2⟩;exact⟨fun e=>by rw[e] at h1;simp at h1,by omega,hm⟩
  ·rintro⟨h1,h2,_⟩;exact⟨by have:=List.length_pos_iff.2 h1;omega,by omega⟩
theorem sS(n:Nd)(hp:n.1.length≤4096)(hl:n.2.2.2.2.1.length≤4096):iV (n,())=some (dK n,()):=by
 obtain⟨p,k,m,d,l,u⟩:=n
 unfold iV dK CN
 dsimp only at hp hl⊢
 rw[qV p hp,aa]
 dsimp only
 rw[CL,aa,HV p (by omega),NC l (by omega)]
 simp only[aa,lW]
 have e0:(au (nt (bZ p [])) (some ((parts p).all gp&&decide ((parts p).length≤8)&&decide (p.length≤96))) (some false):Option Bool)=some (decide (p≠[])&&(parts p).all gp&&decide ((parts p).length≤8)&&decide (p.length≤96)):=by
  by_cases h:p=[]
  ·subst h;rfl
  ·simp[bZ,h,au,nt]
 rw[e0,aa]
 have e1:((((((decide (p≠[])&&(parts p).all gp&&decide ((parts p).length≤8)&&decide (p.length≤96))&&gj (len p) 92)&&gj (len (aJ p).2) 28)&&bp (fV (aJ p).2).1 0)&&gj 0 m)&&gj m 4095)=(nN p&&decide (0≤m)&&decide (m≤4095)):=by
  rw[Bool.eq_iff_iff]
  unfold nN
  simp only[Bool.and_eq_true,DZ,len,bp,decide_eq_true_eq]
  constructor
  ·rintro⟨⟨⟨⟨⟨⟨⟨⟨a1,a2⟩,a3⟩,a4⟩,a5⟩,a6⟩,a7⟩,a8⟩,a9⟩
   exact⟨⟨⟨⟨⟨⟨⟨a1,a2⟩,a3⟩,by omega⟩,by omega⟩,a7⟩,a8⟩,a9⟩
  ·rintro⟨⟨⟨⟨⟨⟨⟨a1,a2⟩,a3⟩,a5⟩,a6⟩,a7⟩,a8⟩,a9⟩
   exact⟨⟨⟨⟨⟨⟨⟨⟨a1,a2⟩,a3⟩,by omega⟩,by omega⟩,by omega⟩,a7⟩,a8⟩,a9⟩
 simp only[e1]
 generalize (nN p&&decide (0≤m)&&decide (m≤4095))=c
 by_cases k1:k=1
 ·subst k1
  rw[show bp 1 1=true by rfl,af,if_pos rfl]
  congr 2
  rw[Bool.and_assoc]
  congr 1
  rw[Bool.eq_iff_iff];simp[bZ,qW,len];intro _;omega
 ·rw[show bp k 1=false by simp[bp,k1],ag,if_neg k1]
  by_cases k2:k=2
  ·subst k2
   rw[show bp 2 2=true by rfl,af,if_pos rfl]
   congr 2
   rw[Bool.and_assoc]
   congr 1
   rw[Bool.eq_iff_iff];simp[bZ]
  ·rw[show bp k 2=false by simp[bp,k2],ag,if_neg k2]
   by_cases k3:k=3
   ·subst k3
    rw[show bp 3 3=true by rfl,af,if_pos rfl]
    cases c with
    | false=>rfl
    | true =>
      by_cases hd:d=[]
      ·simp[bZ,hd,au,ah]
      ·simp[bZ,hd,au,ah]
   ·rw[show bp k 3=false by simp[bp,k3],ag,if_neg k3,Bool.and_false]
end Go.Ge
namespace Go.Ge
set_option linter.unusedVariables false
set_option linter.unusedSimpArgs false
def Sm(n:Nd):Prop:=n.1.length≤200∧n.2.2.2.2.1.length≤300∧n.2.2.2.1.length≤8192
def mM(l:List Nd):Prop:=l.length≤4096∧∀x∈l,Sm x
def key(n:Nd):List (List UInt8):=parts n.1
def cmp(n:Nd)(p:List UInt8):Int:=cmpL (parts n.1) (parts p)
theorem mM.at{l:List Nd}(h:mM l){i:Nat}{x:Nd}(hx:l[i]?=some x):Sm x:=h.2 x (List.mem_of_getElem? hx)
theorem mM.take{l:List Nd}(h:mM l)(k:Nat):mM (l.take k):=⟨by rw[List.length_take];have:=h.1;omega,fun x hx=>h.2 x (List.mem_of_mem_take hx)⟩
theorem Fk(n:Nd)(p:List UInt8)(hn:n.1.length≤4096)(hp:p.length≤4096):jr (n,(p,()))=some (cmp n p,()):=by
 unfold jr
 dsimp only
 rw[wT _ _ hn hp,aa]
 rfl
theorem TK{a b:Nat}(ha:a≤1048576)(hb:b≤1048576):vv .i64 (rE .u64 (vv .u64 (bn .i64 (a:Int) (b:Int))) 1)=(((a+b) / 2:Nat):Int):=by
 rw[AG (by omega) (by omega),TA (by omega) (by omega)]
 have e:rE .u64 ((a:Int)+(b:Int)) 1=(((a+b) / 2:Nat):Int):=by
  unfold rE
  rw[show(1:Int).toNat=1 from rfl]
  have e2:((a:Int)+b).fdiv 2=((a:Int)+b) / 2:=Int.fdiv_eq_ediv_of_nonneg _ (by omega)
  have e3:(2:Int) ^ min 1 IntKind.u64.bits=2:=by decide
  simp[e3,e2]
 rw[e,AH (by omega) (by omega)]
theorem Pz(l:List Nd)(p:List UInt8)(hl:mM l)(hp:p.length≤4096):∀(n lo hi:Nat),hi-lo≤n→lo≤hi→hi≤l.length →
  ∃k:Nat,lo≤k∧k≤hi∧Loop (gv (l,(p,()))) (((lo:Int),((hi:Int),())),())=some (((k:Int),((k:Int),())),()) ∧
   ((∀(i j:Nat) (x y:Nd),i≤j→l[i]?=some x→l[j]?=some y→cmp y p<0→cmp x p<0)→(∀(j:Nat) (y:Nd),j<lo→l[j]?=some y→cmp y p<0)→(∀(j:Nat) (y:Nd),hi≤j→l[j]?=some y→¬cmp y p<0) →
    (∀(j:Nat) (y:Nd),j<k→l[j]?=some y→cmp y p<0)∧(∀(j:Nat) (y:Nd),k≤j→l[j]?=some y→¬cmp y p<0)):=by
 intro n
 induction n with
 | zero =>
   intro lo hi h1 h2 h3
   obtain rfl:hi=lo:=by omega
   refine⟨hi,Nat.le_refl _,Nat.le_refl _,?_,fun _ a b=>⟨a,b⟩⟩
   rw[bH]
   unfold gv
   dsimp only
   rw[bq (Int.le_refl _),ag]
   rfl
 | succ n ih =>
   intro lo hi h1 h2 h3
   by_cases h:hi=lo
   ·subst h
    exact ih hi hi (by omega) (Nat.le_refl _) h3
   ·have h4:=hl.1
    have hm:(lo+hi) / 2<l.length:=by omega
    obtain⟨x,hx⟩:∃x,l[(lo+hi) / 2]?=some x:=⟨_,List.getElem?_eq_getElem hm⟩
    have hstep:gv (l,(p,())) (((lo:Int),((hi:Int),())),())=some (.inl (if cmp x p<0 then(((((lo+hi) / 2+1:Nat):Int),((hi:Int),())),()) else(((lo:Int),((((lo+hi) / 2:Nat):Int),())),()))):=by
     unfold gv
     dsimp only
     rw[cH (by omega),af,bq (by decide),ag,TK (by omega) (by omega),aK hx,aa,Fk x p (by have:=(hl.at hx).1;omega) hp,aa]
     dsimp only
     rw[bI (by omega)]
     by_cases hc:cmp x p<0
     ·rw[cH hc,if_pos hc];rfl
     ·rw[bq (by omega),if_neg hc];rfl
    rw[bH,hstep]
    by_cases hc:cmp x p<0
    ·obtain⟨k,k1,k2,k3,k4⟩:=ih ((lo+hi) / 2+1) hi (by omega) (by omega) h3
     refine⟨k,by omega,k2,by rw[if_pos hc];exact k3,fun a b c=>k4 a (fun j y hj hy=>?_) c⟩
     exact a j ((lo+hi) / 2) y x (by omega) hy hx hc
    ·obtain⟨k,k1,k2,k3,k4⟩:=ih lo ((lo+hi) / 2) (by omega) (by omega) (by omega)
     refine⟨k,k1,by omega,by rw[if_neg hc];exact k3,fun a b c=>k4 a b (fun j y hj hy gU=>hc (a _ _ x y hj hx hy gU))⟩
def Ord(l:List Nd):Prop:=∀(i j:Nat) (x y:Nd),i<j→l[i]?=some x→l[j]?=some y→cmpL (key x) (key y)<0
theorem Ord.mono{l:List Nd}(h:Ord l)(p:List UInt8):∀(i j:Nat) (x y:Nd),i≤j→l[i]?=some x→l[j]?=some y→cmp y p<0→cmp x p<0:=by
 intro i j x y hij hx hy hc
 rcases Nat.lt_or_ge i j with g|g
 ·exact kC (h i j x y g hx hy) hc
 ·obtain rfl:i=j:=by omega
  rw[hx] at hy
  obtain rfl:=Option.some.inj hy
  exact hc
theorem Ord.take{l:List Nd}(h:Ord l)(k:Nat):Ord (l.take k):=fun i j x y hij hx hy=>by
 rw[List.getElem?_take] at hx hy
 split at hx
 ·split at hy
  ·exact h i j x y hij hx hy
  ·cases hy
 ·cases hx
structure Za (l:List Nd) (p:List UInt8) (k:Nat) (b:Bool):Prop where
 le:k≤l.length
 lo:∀(j:Nat) (y:Nd),j<k→l[j]?=some y→cmp y p<0
 hi:∀(j:Nat) (y:Nd),k≤j→l[j]?=some y→¬cmp y p<0
 is:b=true→∃x,l[k]?=some x∧x.1=p
 no:b=false→∀x∈l,x.1≠p
theorem Ll{n:Nd}{p:List UInt8}(h:cmp n p=0):n.1=p:=by
 have:=HR h
 rw[←bC n.1,this,bC]
theorem Fl{n:Nd}{p:List UInt8}(h:n.1=p):cmp n p=0:=by subst h;exact iK _
theorem xY(l:List Nd)(p:List UInt8)(hl:mM l)(hp:p.length≤4096):∃(k:Nat) (b:Bool),dh (l,(p,()))=some ((k:Int),(b,()))∧k≤l.length∧(b=true→k<l.length)∧(Ord l→Za l p k b):=by
 obtain⟨k,_,k2,k3,k4⟩:=Pz l p hl hp l.length 0 l.length (by omega) (by omega) (Nat.le_refl _)
 have Zb:Loop (gv (l,(p,()))) ((0,(len l,())),())=some (((k:Int),((k:Int),())),()):=k3
 have ND:=fun(h:Ord l)=>k4 (h.mono p) (fun j y hj=>by omega) (fun j y hj hy=>by have:=bB hy;omega)
 by_cases hk:k<l.length
 ·obtain⟨x,hx⟩:∃x,l[k]?=some x:=⟨_,List.getElem?_eq_getElem hk⟩
  refine⟨k,decide (cmp x p=0),?_,k2,fun _=>hk,fun h=>⟨k2,(ND h).1,(ND h).2,fun hb=>⟨x,hx,Ll (of_decide_eq_true hb)⟩,fun hb y hy e=>?_⟩⟩
  ·unfold dh
   dsimp only
   rw[Zb,aa]
   dsimp only
   rw[aF hk,af,aK hx,aa,Fk x p (by have:=(hl.at hx).1;omega) hp,aa]
   rfl
  ·obtain⟨j,hj⟩:=fE.1 hy
   have h0:=Fl e
   have hne:=of_decide_eq_false hb
   rcases Nat.lt_trichotomy j k with g|g|g
   ·have:=(ND h).1 j y g hj;omega
   ·subst g;rw[hx] at hj;obtain rfl:=Option.some.inj hj;exact hne h0
   ·have h1:=h k j x y g hx hj
    rw[show key y=parts p by unfold key;rw[e]] at h1
    exact(ND h).2 k x (Nat.le_refl _) hx h1
 ·obtain rfl:k=l.length:=by omega
  refine⟨l.length,false,?_,k2,fun h=>(by cases h),fun h=>⟨k2,(ND h).1,(ND h).2,fun h=>(by cases h),fun hb y hy e=>?_⟩⟩
  ·unfold dh
   dsimp only
   rw[Zb,aa]
   dsimp only
   rw[aS,ag]
  ·obtain⟨j,hj⟩:=fE.1 hy
   have h0:=Fl e
   have:=(ND h).1 j y (bB hj) hj
   omega
def Zc(l:List Nd)(d:List UInt8)(e:Int):Prop:=(d=[]∧e=0)∨(d≠[]∧(((∀x∈l,x.1≠d)∧e=3)∨∃x∈l,x.1=d∧((x.2.1=2∧e=0)∨(x.2.1≠2∧e=12))))
theorem Ov(l:List Nd)(d:List UInt8)(hl:mM l)(hd:d.length≤4096):∃e,kj (l,(d,()))=some (e,())∧(Ord l→Zc l d e):=by
 unfold kj
 dsimp only
 by_cases h0:d=[]
 ·subst h0
  exact⟨0,rfl,fun _=>.inl ⟨rfl,rfl⟩⟩
 ·rw[br h0,ag]
  obtain⟨k,b,h1,h2,h3,h4⟩:=xY l d hl hd
  rw[h1,aa]
  dsimp only
  cases b with
  | false =>
    rw[aO,af]
    exact⟨3,rfl,fun h=>.inr ⟨h0,.inl ⟨(h4 h).no rfl,rfl⟩⟩⟩
  | true =>
    have hk:=h3 rfl
    obtain⟨x,hx⟩:∃x,l[k]?=some x:=⟨_,List.getElem?_eq_getElem hk⟩
    rw[aT,ag,aK hx,aa]
    have hw:Ord l→x.1=d:=fun h=>by
     obtain⟨y,hy,e⟩:=(h4 h).is rfl
     rw[hx] at hy
     rw[Option.some.inj hy,e]
    by_cases hk2:x.2.1=2
    ·refine⟨0,?_,fun h=>.inr ⟨h0,.inr ⟨x,List.mem_of_getElem? hx,hw h,.inl ⟨hk2,rfl⟩⟩⟩⟩
     rw[ck hk2];rfl
    ·refine⟨12,?_,fun h=>.inr ⟨h0,.inr ⟨x,List.mem_of_getElem? hx,hw h,.inr ⟨hk2,rfl⟩⟩⟩⟩
     rw[show bp x.2.1 2=false by simp[bp,hk2]];rfl
theorem wX(l:List Nd)(p:List UInt8)(hl:mM l):(∃(i:Nat) (x:Nd),l[i]?=some x∧x.1=p∧fC (l,(p,()))=some ((i:Int),()))∨((∀x∈l,x.1≠p)∧fC (l,(p,()))=some (-1,())):=by
 unfold fC
 rcases AM (f:=lS (l,(p,()))) l (fun i=>((0,(i,())),())) (fun _ x=>decide (x.1=p)) (fun i x=>(1,(((i:Int),((i:Int),())),()))) ((0:Nat),((0,((l.length:Int),())),())) (by have:=hl.1;omega) (fun i x hx hi ha=>by
  unfold lS
  dsimp only
  rw[aF hi,af,aK hx,aa,AK,ha]
  by_cases h:x.1=p<;>simp[h,au]) (by unfold lS;dsimp only;rw[aS,ag]) with ⟨i,x,hx,hp,_,h⟩|⟨hn,h⟩
 ·left
  refine⟨i,x,hx,of_decide_eq_true hp,?_⟩
  rw[h];rfl
 ·right
  refine⟨fun x hx e=>?_,by rw[h];rfl⟩
  obtain⟨i,hi⟩:=fE.1 hx
  have:=hn i x hi
  simp[e] at this
theorem Fm(l:List Nd)(d:List UInt8)(hl:mM l):∃b,ko (l,(d,()))=some (b,())∧(b=true→d=[]∨∃x∈l,x.1=d∧x.2.1=2)∧(Ord l→b=false→d≠[]∧∀x∈l,x.1=d→x.2.1≠2):=by
 unfold ko
 dsimp only
 by_cases h0:d=[]
 ·subst h0
  rcases wX l [] hl with ⟨i,x,hx,Ow,h⟩|⟨_,h⟩<;>rw[h,aa]<;>exact⟨true,rfl,fun _=>.inl rfl,fun _ h=>by cases h⟩
 ·rcases wX l d hl with ⟨i,x,hx,Ow,h⟩|⟨hn,h⟩
  ·rw[h,aa,br h0,aO,af]
   dsimp only
   rw[eF (by omega),af,aK hx,aa,aa,aa]
   refine⟨_,rfl,fun hb=>.inr ⟨x,List.mem_of_getElem? hx,Ow,of_decide_eq_true hb⟩,fun ho hb=>⟨h0,fun y hy hyd hk=>?_⟩⟩
   have hne:=of_decide_eq_false hb
   obtain⟨j,hj⟩:=fE.1 hy
   have hkk:key x=key y:=by unfold key;rw[Ow,hyd]
   rcases Nat.lt_trichotomy i j with g|g|g
   ·have:=ho i j x y g hx hj;rw[hkk,iK] at this;omega
   ·subst g;rw[hx] at hj;obtain rfl:=Option.some.inj hj;exact hne hk
   ·have:=ho j i y x g hj hx;rw[hkk,iK] at this;omega
  ·rw[h,aa,br h0,aO,af]
   exact⟨false,rfl,fun h=>(by cases h),fun _ _=>⟨h0,fun x hx e=>absurd e (hn x hx)⟩⟩
end Go.Ge
namespace Go.Ge
set_option linter.unusedVariables false
set_option linter.unusedSimpArgs false
structure Valid (l:List Nd):Prop where
 VW:l.length≤64
 ord:Ord l
 may:∀x∈l,dK x=true
 up:∀x∈l,(aJ x.1).1=[]∨∃y∈l,y.1=(aJ x.1).1∧y.2.1=2
theorem Fo(p:List UInt8):(aJ p).1.length≤p.length:=by
 rcases iW p with ⟨_,h⟩|⟨a,b,h1,_,h⟩
 ·rw[h];simp
 ·rw[h,h1];simp
theorem mo{p:List UInt8}(h:(aJ p).1≠[]):parts p=parts (aJ p).1++[(aJ p).2]:=by
 rcases iW p with ⟨_,e⟩|⟨a,b,e1,e2,e⟩
 ·rw[e] at h;exact absurd rfl h
 ·rw[e] at h⊢
  have hp:p≠[]:=by rw[e1];simp
  unfold parts
  rw[if_neg hp,if_neg h,e1]
  exact sR a b e2
theorem Ord.uniq{l:List Nd}(h:Ord l){x y:Nd}(hx:x∈l)(hy:y∈l)(e:x.1=y.1):x=y:=by
 obtain⟨i,hi⟩:=fE.1 hx
 obtain⟨j,hj⟩:=fE.1 hy
 have hk:key x=key y:=by unfold key;rw[e]
 rcases Nat.lt_trichotomy i j with g|g|g
 ·have:=h i j x y g hi hj;rw[hk,iK] at this;omega
 ·subst g;rw[hi] at hj;exact Option.some.inj hj
 ·have:=h j i y x g hj hi;rw[hk,iK] at this;omega
theorem Fq{l:List Nd}(h:∀(k:Nat) (x y:Nd),l[k]?=some x→l[k+1]?=some y→cmpL (key x) (key y)<0):Ord l:=by
 have run:∀(d i:Nat) (x y:Nd),l[i]?=some x→l[i+1+d]?=some y→cmpL (key x) (key y)<0:=by
  intro d
  induction d with
  | zero=>intro i x y hx hy;exact h i x y hx hy
  | succ d ih =>
    intro i x y hx hy
    have hl:=bB hy
    obtain⟨z,hz⟩:∃z,l[i+1+d]?=some z:=⟨_,List.getElem?_eq_getElem (by omega)⟩
    exact kC (ih i x z hx hz) (h (i+1+d) z y hz hy)
 intro i j x y hij hx hy
 exact run (j-i-1) i x y hx (by rw[show i+1+(j-i-1)=j by omega];exact hy)
def yE(l:List Nd)(i:Nat)(x:Nd):Bool:=match i with
 | 0=>false
 | k+1=>match l[k]? with
   | some y=>decide (0≤cmpL (key y) (key x))
   | none=>false
theorem u9{l:List Nd}{k:Nat}{x y:Nd}(hy:l[k]?=some y):yE l (k+1) x=decide (0≤cmpL (key y) (key x)):=by
 show(match l[k]? with|some y=>decide (0≤cmpL (key y) (key x))|none=>false)=_
 rw[hy]
noncomputable def Lm(l:List Nd)(d:List UInt8):Int:=match kj (l,(d,())) with
 | some y=>y.1
 | none=>0
theorem Fs(l:List Nd)(d:List UInt8)(hl:mM l)(hd:d.length≤4096):kj (l,(d,()))=some (Lm l d,())∧(Ord l→Zc l d (Lm l d)):=by
 obtain⟨e,h1,h2⟩:=Ov l d hl hd
 have:Lm l d=e:=by unfold Lm;rw[h1]
 rw[this];exact⟨h1,h2⟩
noncomputable def CO(l:List Nd)(d:List UInt8):Bool:=match ko (l,(d,())) with
 | some y=>y.1
 | none=>false
theorem B2(l:List Nd)(d:List UInt8)(hl:mM l):ko (l,(d,()))=some (CO l d,())∧(CO l d=true→d=[]∨∃x∈l,x.1=d∧x.2.1=2)∧(Ord l→CO l d=false→d≠[]∧∀x∈l,x.1=d→x.2.1≠2):=by
 obtain⟨e,h1,h2,h3⟩:=Fm l d hl
 have:CO l d=e:=by unfold CO;rw[h1]
 rw[this];exact⟨h1,h2,h3⟩
theorem HZ{l:List Nd}(h:∀(i:Nat) (x:Nd),l[i]?=some x→yE l i x=false):Ord l:=Fq fun k x y hx hy=>by
 have:=h (k+1) y hy
 rw[u9 hx] at this
 have:=of_decide_eq_false this
 omega
theorem H6{l:List Nd}(h:Ord l){i:Nat}{x:Nd}(hx:l[i]?=some x):yE l i x=false:=by
 cases i with
 | zero=>rfl
 | succ k =>
   have hl:=bB hx
   obtain⟨y,hy⟩:∃y,l[k]?=some y:=⟨_,List.getElem?_eq_getElem (by omega)⟩
   rw[u9 hy]
   have:=h k (k+1) y x (by omega) hy hx
   exact decide_eq_false (by omega)
theorem PA{l:List Nd}(h:Ord l){i:Nat}{x y:Nd}(hx:l[i]?=some x)(hy:y∈l)(hu:(aJ x.1).1≠[])(e:y.1=(aJ x.1).1):y∈l.take i:=by
 obtain⟨j,hj⟩:=fE.1 hy
 have hc:cmpL (key y) (key x)=-1:=by
  unfold key
  rw[e,mo hu]
  exact K5 _ _ (by simp)
 rcases Nat.lt_or_ge j i with g|g
 ·exact List.mem_of_getElem? (i:=j) (by rw[List.getElem?_take,if_pos g];exact hj)
 ·exfalso
  rcases Nat.lt_or_ge i j with g2|g2
  ·have:=kC (h i j x y g2 hx hj) (show cmpL (key y) (key x)<0 by omega)
   rw[iK] at this;omega
  ·obtain rfl:i=j:=by omega
   rw[hx] at hj
   obtain rfl:=Option.some.inj hj
   rw[iK] at hc;omega
theorem jf(l:List Nd)(hl:mM l):∃e,dm (l,())=some (e,())∧(e=0↔Valid l):=by
 unfold dm
 dsimp only
 have uQ:cm 64 (len l)=decide (64<l.length):=by unfold cm len;apply decide_eq_decide.2;omega
 rw[uQ]
 by_cases h0:64<l.length
 ·rw[decide_eq_true h0,af]
  exact⟨1,rfl,fun h=>by omega,fun h=>by have:=h.VW;omega⟩
 ·rw[decide_eq_false h0,ag]
  have hsp:∀{i:Nat} {x:Nd},l[i]?=some x→(aJ x.1).1.length≤4096:=fun {i x} hx=>by have:=(hl.at hx).1;have:=Fo x.1;omega
  rcases AM (f:=lR (l,())) l (fun i=>((0,(i,())),())) (fun i x=>!dK x||yE l i x||decide (Lm (l.take i) (aJ x.1).1≠0)) (fun i x=>(1,((1,((i:Int),())),()))) ((0:Nat),((0,((l.length:Int),())),())) (by have:=hl.1;omega) (fun i x hx hi ha=>by
   unfold lR
   dsimp only
   rw[aF hi,af,aK hx,aa,kD _ (by have:=(hl.at hx).1;omega),aa,Ou _ (by have:=(hl.at hx).1;omega),aa]
   dsimp only
   cases hm:dK x with
   | false=>rfl
   | true =>
     rw[aT,ag]
     have hin:inside 0 (i:Int) (len l)=true:=r5 (a:=0) (Nat.zero_le _) (by omega)
     have Yp:=(Fs (l.take i) (aJ x.1).1 (hl.take i) (hsp hx)).1
     rw[hin,af,lM,Yp,aa,ha]
     dsimp only
     cases i with
     | zero =>
       rw[bq (by simp),ag]
       generalize Lm (l.take 0) (aJ x.1).1=e
       by_cases hz:e=0
       ·rw[ck hz,aT,ag];simp[yE,hz]
       ·rw[show bp e 0=false by simp[bp,hz],aO,af];simp[yE,hz]
     | succ k =>
       obtain⟨y,hy⟩:∃y,l[k]?=some y:=⟨_,List.getElem?_eq_getElem (by omega)⟩
       rw[cH (by omega),af,nM (by omega) (by omega),show(((k+1:Nat):Int)-1)=(k:Int) by omega,aK hy,aa,wT _ _ (by have:=(hl.at hy).1;omega) (by have:=(hl.at hx).1;omega),aa]
       dsimp only
       rw[qW]
       rw[u9 hy]
       unfold key
       generalize Lm (l.take (k+1)) (aJ x.1).1=e
       by_cases hc:0≤cmpL (parts y.1) (parts x.1)
       ·rw[decide_eq_true hc,af];simp
       ·rw[decide_eq_false hc,ag]
        by_cases hz:e=0
        ·rw[ck hz,aT,ag];simp[hz]
        ·rw[show bp e 0=false by simp[bp,hz],aO,af];simp[hz]) (by unfold lR;dsimp only;rw[aS,ag]) with ⟨i,x,hx,hp,_,h⟩|⟨hn,h⟩
  ·rw[h,aa,gK,ag]
   refine⟨1,rfl,fun h=>by omega,fun hv=>?_⟩
   rw[hv.may x (List.mem_of_getElem? hx),H6 hv.ord hx] at hp
   simp only[Bool.not_true,Bool.false_or,decide_eq_true_eq] at hp
   have hd:=(Fs (l.take i) (aJ x.1).1 (hl.take i) (hsp hx)).2 (hv.ord.take i)
   rcases hd with ⟨_,e⟩|⟨hne,hd⟩
   ·exact absurd e hp
   ·rcases hv.up x (List.mem_of_getElem? hx) with hu|⟨y,hy,hy1,gU⟩
    ·exact absurd hu hne
    ·have hyt:=PA hv.ord hx hy hne hy1
     rcases hd with ⟨hno,_⟩|⟨z,hz,hz1,⟨_,e⟩|⟨Xo,_⟩⟩
     ·exact absurd hy1 (hno y hyt)
     ·exact absurd e hp
     ·have:=hv.ord.uniq (List.mem_of_mem_take hz) hy (by rw[hz1,hy1])
      subst this
      exact absurd gU Xo
  ·rw[h,aa,dN,af]
   have hn':∀(i:Nat) (x:Nd),l[i]?=some x→dK x=true∧yE l i x=false∧Lm (l.take i) (aJ x.1).1=0:=fun i x hx=>by
    have:=hn i x hx
    simp only[Bool.or_eq_false_iff,Bool.not_eq_false',decide_eq_false_iff_not,Decidable.not_not] at this
    exact⟨this.1.1,this.1.2,by simpa using this.2⟩
   have ho:Ord l:=HZ fun i x hx=>(hn' i x hx).2.1
   refine⟨0,rfl,fun _=>⟨by omega,ho,fun x hx=>?_,fun x hx=>?_⟩,fun _=>rfl⟩
   ·obtain⟨i,hi⟩:=fE.1 hx
    exact(hn' i x hi).1
   ·obtain⟨i,hi⟩:=fE.1 hx
    have hd:=(Fs (l.take i) (aJ x.1).1 (hl.take i) (hsp hi)).2 (ho.take i)
    rw[(hn' i x hi).2.2] at hd
    rcases hd with ⟨e,_⟩|⟨_,⟨_,e⟩|⟨y,hy,hy1,⟨gU,_⟩|⟨_,e⟩⟩⟩
    ·exact .inl e
    ·omega
    ·exact .inr ⟨y,List.mem_of_mem_take hy,hy1,gU⟩
    ·omega
theorem mq(l:List Nd)(hl:mM l):∃b,gX (l,())=some (b,())∧(b=true↔Valid l):=by
 unfold gX
 dsimp only
 have uQ:cm 64 (len l)=decide (64<l.length):=by unfold cm len;apply decide_eq_decide.2;omega
 rw[uQ]
 by_cases h0:64<l.length
 ·rw[decide_eq_true h0,af]
  exact⟨false,rfl,fun h=>(by cases h),fun h=>by have:=h.VW;omega⟩
 ·rw[decide_eq_false h0,ag]
  rcases AM (f:=pE (l,())) l (fun i=>((false,(i,())),())) (fun i x=>!dK x||!CO l (aJ x.1).1||yE l i x) (fun i x=>(1,((false,((i:Int),())),()))) ((0:Nat),((false,((l.length:Int),())),())) (by have:=hl.1;omega) (fun i x hx hi ha=>by
   unfold pE
   dsimp only
   rw[aF hi,af,aK hx,aa,qV _ (by have:=(hl.at hx).1;omega),aa,aa,sS _ (by have:=(hl.at hx).1;omega) (by have:=(hl.at hx).2.1;omega),aa]
   dsimp only
   cases hm:dK x with
   | false=>rfl
   | true =>
     rw[aT,ag,(B2 l (aJ x.1).1 hl).1,aa]
     dsimp only
     cases hr:CO l (aJ x.1).1 with
     | false=>rfl
     | true =>
       rw[aT,ag,ha]
       cases i with
       | zero=>rw[bq (by simp),ag];simp[yE]
       | succ k =>
         obtain⟨y,hy⟩:∃y,l[k]?=some y:=⟨_,List.getElem?_eq_getElem (by omega)⟩
         rw[cH (by omega),af,nM (by omega) (by omega),show(((k+1:Nat):Int)-1)=(k:Int) by omega,aK hy,aa,aa,wU _ _ (by have:=(hl.at hy).1;omega) (by have:=(hl.at hx).1;omega),aa]
         dsimp only
         rw[qW]
         rw[u9 hy]
         unfold key
         by_cases hc:0≤cmpL (parts y.1) (parts x.1)
         ·rw[decide_eq_true hc,af];simp
         ·rw[decide_eq_false hc,ag];simp) (by unfold pE;dsimp only;rw[aS,ag]) with ⟨i,x,hx,hp,_,h⟩|⟨hn,h⟩
  ·rw[h,aa,gK,ag]
   refine⟨false,rfl,fun h=>(by cases h),fun hv=>?_⟩
   rw[hv.may x (List.mem_of_getElem? hx),H6 hv.ord hx] at hp
   simp only[Bool.not_true,Bool.false_or,Bool.or_false,Bool.not_eq_true'] at hp
   obtain⟨g1,g2⟩:=(B2 l (aJ x.1).1 hl).2.2 hv.ord hp
   rcases hv.up x (List.mem_of_getElem? hx) with hu|⟨y,hy,hy1,gU⟩
   ·exact absurd hu g1
   ·exact absurd gU (g2 y hy hy1)
  ·rw[h,aa,dN,af]
   have hn':∀(i:Nat) (x:Nd),l[i]?=some x→dK x=true∧CO l (aJ x.1).1=true∧yE l i x=false:=fun i x hx=>by
    have:=hn i x hx
    simp only[Bool.or_eq_false_iff,Bool.not_eq_false'] at this
    exact⟨this.1.1,this.1.2,this.2⟩
   refine⟨true,rfl,fun _=>⟨by omega,HZ fun i x hx=>(hn' i x hx).2.2,fun x hx=>?_,fun x hx=>?_⟩,fun _=>rfl⟩
   ·obtain⟨i,hi⟩:=fE.1 hx
    exact(hn' i x hi).1
   ·obtain⟨i,hi⟩:=fE.1 hx
    exact(B2 l (aJ x.1).1 hl).2.1 (hn' i x hi).2.1
end Go.Ge
namespace Go.Ge
set_option linter.unusedVariables false
set_option linter.unusedSimpArgs false
theorem takeWhile_eq{α:Type}{P:α→Bool}:∀{l:List α} {k:Nat},k≤l.length→(∀(j:Nat) (y:α),j<k→l[j]?=some y→P y=true)→(∀y,l[k]?=some y→P y=false)→l.takeWhile P=l.take k∧l.dropWhile P=l.drop k:=by
 intro l
 induction l with
 | nil=>intro k hk _ _;simp
 | cons a r ih =>
   intro k hk h1 h2
   cases k with
   | zero =>
     have:=h2 a rfl
     simp[List.takeWhile_cons,List.dropWhile_cons,this]
   | succ k =>
     have ha:=h1 0 a (by omega) rfl
     obtain⟨g1,g2⟩:=ih (k:=k) (by simpa using hk) (fun j y hj hy=>h1 (j+1) y (by omega) hy) (fun y hy=>h2 y hy)
     simp[List.takeWhile_cons,List.dropWhile_cons,ha,g1,g2]
theorem Ft{α S R:Type}{f:S→Option (S⊕R)}(l:List α)(gone:α→Bool)(mk:Int→Int→List α→S)(fin:Int→List α→R)(hl:l.length≤4294967296)
  (hstep:∀(w j:Nat) (L:List α) (x:α),l[j]?=some x→L[j]?=some x→w≤j→j<L.length→bn .i64 (w:Int) 1=((w+1:Nat):Int)→bn .i64 (j:Int) 1=((j+1:Nat):Int) →
   f (mk (w:Int) (j:Int) L)=some (.inl (if gone x=true then mk (w:Int) ((j+1:Nat):Int) L else mk ((w+1:Nat):Int) ((j+1:Nat):Int) (L.set w x))))
  (E7:∀(w:Nat) (L:List α),f (mk (w:Int) (L.length:Int) L)=some (.inr (fin (w:Int) L))) :
  ∀(n w j:Nat) (L:List α),l.length-j≤n→w≤j→j≤l.length→L.length=l.length→L.take w=(l.take j).filter (fun x=>!gone x)→L.drop j=l.drop j →
   ∃(w':Nat) (L':List α),Loop f (mk (w:Int) (j:Int) L)=some (fin (w':Int) L')∧L'.length=l.length∧w'≤l.length∧L'.take w'=l.filter (fun x=>!gone x):=by
 intro n
 induction n with
 | zero =>
   intro w j L hn hw hj hL ht hd
   obtain rfl:j=L.length:=by omega
   refine⟨w,L,?_,hL,by omega,?_⟩
   ·rw[bH,E7];rfl
   ·rw[ht,hL,List.take_length]
 | succ n ih =>
   intro w j L hn hw hj hL ht hd
   by_cases hjl:j=l.length
   ·exact ih w j L (by omega) hw hj hL ht hd
   ·have hjL:j<L.length:=by omega
    have hx:l[j]?=some l[j]:=List.getElem?_eq_getElem (by omega)
    have Vl:L[j]?=some l[j]:=by
     have:=congrArg (fun z=>z[0]?) hd
     simpa [List.getElem?_drop,hx] using this
    have hd1:L.drop (j+1)=l.drop (j+1):=by
     have:=congrArg (List.drop 1) hd
     simpa [List.drop_drop] using this
    have Wn:l.take (j+1)=l.take j++[l[j]]:=by rw[List.take_add_one,hx];rfl
    rw[bH,hstep w j L l[j] hx Vl hw hjL (bI (by omega)) (bI (by omega))]
    by_cases hg:gone l[j]=true
    ·rw[if_pos hg]
     exact ih w (j+1) L (by omega) (by omega) (by omega) hL (by rw[ht,Wn,List.filter_append];simp[hg]) hd1
    ·rw[if_neg hg]
     refine ih (w+1) (j+1) (L.set w l[j]) (by omega) (by omega) (by omega) (by simpa using hL) ?_ ?_
     ·rw[Wn,List.filter_append,←ht,List.take_add_one,List.take_set_of_le (Nat.le_refl w)]
      simp[hg,show w<L.length by omega]
     ·rw[List.drop_set_of_lt (by omega)];exact hd1
theorem Fu{α:Type}(L:List α)(w:Nat)(hw:w≤L.length)(m:List α):sub (over L (w:Int) m) 0 (minus (w:Int) 0)=L.take w:=by
 rw[lM]
 unfold over
 rw[Int.toNat_natCast,List.append_assoc,List.take_append_of_le_length (by rw[List.length_take];omega),List.take_take,Nat.min_self]
theorem Fv{α:Type}(L:List α)(w:Nat)(hw:w≤L.length)(z:α):len (over L (w:Int) (qc (minus (len L) (w:Int)) z))=(L.length:Int):=by
 unfold over qc minus len
 simp
 omega
theorem filter_one{α:Type}{l:List α}{P:α→Bool}{k:Nat}{x:α}(hx:l[k]?=some x)(hP:P x=false)(h:∀(j:Nat) (y:α),j≠k→l[j]?=some y→P y=true):l.filter P=l.take k++l.drop (k+1):=by
 have hk:=bB hx
 have e:l=l.take k++x::l.drop (k+1):=by
  conv=>lhs;rw[←List.take_append_drop k l,List.drop_eq_getElem_cons hk]
  rw[(List.getElem?_eq_some_iff.1 hx).2]
 conv=>lhs;rw[e]
 rw[List.filter_append,List.filter_cons,hP]
 have h1:(l.take k).filter P=l.take k:=List.filter_eq_self.2 fun y hy=>by
  obtain⟨j,hj⟩:=fE.1 hy
  rw[List.getElem?_take] at hj
  split at hj
  ·exact h j y (by omega) hj
  ·cases hj
 have h2:(l.drop (k+1)).filter P=l.drop (k+1):=List.filter_eq_self.2 fun y hy=>by
  obtain⟨j,hj⟩:=fE.1 hy
  rw[List.getElem?_drop] at hj
  exact h (k+1+j) y (by omega) hj
 rw[h1,h2]
 simp
def oM(l:List Nd)(n:Nd):List Nd:=l.takeWhile (fun x=>decide (cmp x n.1<0))++n::l.dropWhile (fun x=>decide (cmp x n.1<0))
def gone(p:List UInt8)(x:Nd):Bool:=decide (x.1=p)||bM (parts x.1) (parts p)
def jP(l:List Nd)(p:List UInt8):List Nd:=l.filter fun x=>!gone p x
theorem Ord.filter{l:List Nd}(h:Ord l)(P:Nd→Bool):Ord (l.filter P):=by
 have hp:l.Pairwise fun x y=>cmpL (key x) (key y)<0:=by
  rw[List.pairwise_iff_getElem]
  intro i j hi hj hij
  exact h i j _ _ hij (List.getElem?_eq_getElem hi) (List.getElem?_eq_getElem hj)
 have hq:=hp.filter P
 rw[List.pairwise_iff_getElem] at hq
 intro i j x y hij hx hy
 obtain⟨h1,h2⟩:=List.getElem?_eq_some_iff.1 hx
 obtain⟨h3,h4⟩:=List.getElem?_eq_some_iff.1 hy
 rw[←h2,←h4]
 exact hq i j h1 h3 hij
theorem mM.filter{l:List Nd}(h:mM l)(P:Nd→Bool):mM (l.filter P):=⟨Nat.le_trans (List.length_filter_le _ _) h.1,fun x hx=>h.2 x (List.mem_filter.1 hx).1⟩
theorem TL{l:List Nd}{n:Nd}{k:Nat}{b:Bool}(h:Za l n.1 k b):oM l n=l.take k++[n]++l.drop k:=by
 obtain⟨h1,h2⟩:=takeWhile_eq (P:=fun x=>decide (cmp x n.1<0)) h.le (fun j y hj hy=>decide_eq_true (h.lo j y hj hy)) (fun y hy=>decide_eq_false (h.hi k y (Nat.le_refl _) hy))
 unfold oM
 rw[h1,h2]
 simp
theorem Fw{l:List Nd}(hv:Valid l){p:List UInt8}(hp:p≠[])(hn:∀x∈l,x.1≠p):∀(m:Nat) (x:Nd),x∈l→(parts x.1).length≤m→bM (parts x.1) (parts p)=false:=by
 intro m
 induction m with
 | zero =>
   intro x hx hm
   unfold bM
   exact decide_eq_false (by omega)
 | succ m ih =>
   intro x hx hm
   cases hu:bM (parts x.1) (parts p) with
   | false=>rfl
   | true =>
     exfalso
     unfold bM at hu
     obtain⟨h1,h2⟩:=of_decide_eq_true hu
     have hmay:=hv.may x hx
     unfold dK nN at hmay
     simp only[Bool.and_eq_true,decide_eq_true_eq] at hmay
     by_cases h0:(aJ x.1).1=[]
     ·have hall:=hmay.1.1.1.1.1.1.1.2
      have hone:(parts x.1).length≤1:=by
       rcases iW x.1 with ⟨a,_⟩|⟨a,b,e1,e2,e⟩
       ·unfold parts
        split
        ·simp
        ·rw[kV _ a];simp
       ·rw[e] at h0
        have h0:a=[]:=h0
        subst h0
        have:gp []=true:=List.all_eq_true.1 hall [] (by
         unfold parts
         rw[e1,if_neg (by simp)]
         show []∈bS ([]++47::b)
         rw[zx [] (by simp)]
         simp)
        exact absurd this (by decide)
      have:parts p=[]:=List.length_eq_zero_iff.1 (by omega)
      have:=bC p
      rw[‹parts p=[]›] at this
      exact hp this.symm
     ·have hk:=mo h0
      rcases hv.up x hx with e|⟨y,hy,hy1,gU⟩
      ·exact absurd e h0
      ·rw[←hy1] at hk
       rw[hk] at h1 h2
       have hle:(parts p).length≤(parts y.1).length:=by simp at h1;omega
       rw[List.take_append_of_le_length hle] at h2
       rcases Nat.lt_or_ge (parts p).length (parts y.1).length with g|g
       ·have:=ih y hy (by rw[hk] at hm;simp at hm;omega)
        unfold bM at this
        exact absurd ⟨g,h2⟩ (of_decide_eq_false this)
       ·have he:parts p=parts y.1:=by rw[←h2,List.take_of_length_le (by omega)]
        refine hn y hy ?_
        rw[←bC y.1,←he,bC]
theorem NF{l:List Nd}(hv:Valid l){p:List UInt8}(hp:p≠[])(hn:∀x∈l,x.1≠p):jP l p=l:=List.filter_eq_self.2 fun x hx=>by
 unfold gone
 rw[Fw hv hp hn _ x hx (Nat.le_refl _),decide_eq_false (hn x hx)];rfl
end Go.Ge
namespace Go.Ge
set_option linter.unusedVariables false
set_option linter.unusedSimpArgs false
open Classical in
noncomputable def aX(l:List Nd)(n:Nd):List Nd×Int :=
 if ¬Valid l∨dK n=false then([],1) else
 if(aJ n.1).1≠[]∧∀x∈l,x.1≠(aJ n.1).1 then([],3) else
 if(aJ n.1).1≠[]∧∀x∈l,x.1=(aJ n.1).1→x.2.1≠2 then([],12) else
 let r:=if(∃x∈l,x.1=n.1∧x.2.1=2)∧n.2.1=2 then l.filter (fun x=>!decide (x.1=n.1)) else jP l n.1
 if 64≤r.length then([],5) else(oM r n,0)
theorem va{n:Nd}(h:dK n=true):n.1≠[]:=by
 unfold dK nN at h
 simp only[Bool.and_eq_true,decide_eq_true_eq] at h
 exact h.1.1.1.1.1.1.1.1
theorem TM(l:List Nd)(k:Nat)(n:Nd)(hk:k≤l.length)(hl:l.length≤4096):aH l ((k:Int),([n],()))=some (l.take k++[n]++l.drop k):=by
 unfold aH Ru
 dsimp only
 have h1:inside 0 (k:Int) (len l)=true:=r5 (a:=0) (Nat.zero_le _) hk
 rw[h1,bw (by simp;omega)]
 simp
theorem Ln(r:List Nd)(n:Nd)(hr:mM r)(ho:Ord r)(hn:n.1.length≤200)(c:Int)(hc:c=r.length) :
  au (gj 64 c) (some (([]:List Nd),((5:Int),()))) (ah (dh (r,(n.1,()))) fun(y:Int×Bool×Unit)=>ah (aH r (y.1,([n],()))) fun z=>some (z,((0:Int),()))) =
   some (if 64≤r.length then([],(5,())) else(oM r n,(0,()))):=by
 subst hc
 rw[qW]
 by_cases h:64≤r.length
 ·rw[decide_eq_true (by omega),af,if_pos h]
 ·rw[decide_eq_false (by omega),ag,if_neg h]
  obtain⟨k,b,h1,h2,h3,h4⟩:=xY r n.1 hr (by omega)
  rw[h1,aa]
  dsimp only
  rw[TM r k n h2 hr.1,aa,TL (h4 ho)]
theorem Lo(x:Nd)(p:List UInt8)(hx:x.1.length≤200)(hp:p.length≤200):au (nt (bZ x.1 p)) (ah (cB (x.1,(p,()))) (fun(y:Bool×Unit)=>some y.1)) (some true)=some (gone p x):=by
 rw[uA _ _ (by omega) (by omega),aa,AK]
 unfold gone
 cases decide (x.1=p)<;>rfl
theorem PB(l:List Nd)(n:Nd)(hl:mM l)(hn:n.1.length≤200):(∃i x,l[i]?=some x∧gone n.1 x=true∧(∀(j:Nat) y,j<i→l[j]?=some y→gone n.1 y=false)∧Loop (jG (l,(n,()))) ((0,(0,())),((),(n.1,())))=some (1,(((i:Int),((i:Int),())),((),(n.1,()))))) ∨
  ((∀(i:Nat) x,l[i]?=some x→gone n.1 x=false)∧Loop (jG (l,(n,()))) ((0,(0,())),((),(n.1,())))=some (0,((0,((l.length:Int),())),((),(n.1,()))))) :=
 AM (f:=jG (l,(n,()))) l (fun i=>((0,(i,())),((),(n.1,())))) (fun _ x=>gone n.1 x) (fun i x=>(1,(((i:Int),((i:Int),())),((),(n.1,()))))) (0,((0,((l.length:Int),())),((),(n.1,())))) (by have:=hl.1;omega) (fun i x hx hi ha=>by
  unfold jG
  dsimp only
  rw[aF hi,af,cL (by omega) (by unfold len;omega),af,aK hx,aa,Lo _ _ (hl.at hx).1 hn,aa,ha]
  cases gone n.1 x<;>rfl) (by unfold jG;dsimp only;rw[aS,ag])
theorem PC(l:List Nd)(n:Nd)(hl:mM l)(hn:n.1.length≤200)(i:Nat)(x:Nd)(hx:l[i]?=some x)(hg:gone n.1 x=true)(hb:∀(j:Nat) y,j<i→l[j]?=some y→gone n.1 y=false) :
  ∃(w:Nat) (L:List Nd),Loop (lJ) (((i:Int),(bn IntKind.i64 (i:Int) 1,((),()))),((),(n.1,(l,()))))=some (((w:Int),((l.length:Int),((),()))),((),(n.1,(L,()))))∧L.length=l.length∧w≤l.length∧L.take w=jP l n.1:=by
 have hi:=bB hx
 have h4:=hl.1
 have hfl:l.take i=(l.take (i+1)).filter (fun x=>!gone n.1 x):=by
  rw[List.take_add_one,hx,List.filter_append]
  have h1:(l.take i).filter (fun x=>!gone n.1 x)=l.take i:=List.filter_eq_self.2 fun y hy=>by
   obtain⟨j,hj⟩:=fE.1 hy
   rw[List.getElem?_take] at hj
   split at hj
   ·rw[hb j y (by omega) hj];rfl
   ·cases hj
  rw[h1]
  simp[hg]
 obtain⟨w,L,h1,h2,h3,h5⟩:=Ft (f:=lJ) l (gone n.1) (fun w j L=>((w,(j,((),()))),((),(n.1,(L,()))))) (fun w L=>((w,((L.length:Int),((),()))),((),(n.1,(L,()))))) (by omega) (fun w j L x hx Vl hw hj ha hb=>by
  unfold lJ
  dsimp only
  have WT:w<L.length:=by omega
  obtain⟨z,hz⟩:∃z,L[w]?=some z:=⟨_,List.getElem?_eq_getElem WT⟩
  rw[aF hj,af,cL (by omega) (by unfold len;omega),af,aK Vl,aa,Lo _ _ (hl.at hx).1 hn,aa,hb]
  cases gone n.1 x with
  | true=>rfl
  | false =>
    rw[aO,af,cL (by omega) (by unfold len;omega),af,aK hz,aa,aa,aa,aa,ha,ux]
    rfl) (fun w L=>by
  unfold lJ
  dsimp only
  rw[aS,ag]
  rfl) l.length i (i+1) l (by omega) (by omega) (by omega) rfl hfl rfl
 refine⟨w,L,?_,h2,h3,h5⟩
 rw[bI (by omega),h1,h2]
theorem Lp{l:List Nd}(ho:Ord l){n x:Nd}{k:Nat}(hx:l[k]?=some x)(e:x.1=n.1):l.filter (fun x=>!decide (x.1=n.1))=l.take k++l.drop (k+1)∧oM (l.take k++l.drop (k+1)) n=l.take k++[n]++l.drop (k+1):=by
 have hk:=bB hx
 have Yq:key x=parts n.1:=by unfold key;rw[e]
 have hlo:∀(j:Nat) (y:Nd),j<k→l[j]?=some y→cmp y n.1<0:=fun j y hj hy=>by
  have:=ho j k y x hj hy hx
  rw[Yq] at this;exact this
 have hhi:∀(j:Nat) (y:Nd),k<j→l[j]?=some y→¬cmp y n.1<0:=fun j y hj hy hc=>by
  have:=ho k j x y hj hx hy
  rw[Yq] at this
  have:=kC this hc
  rw[iK] at this;omega
 have htl:(l.take k).length=k:=by rw[List.length_take];omega
 constructor
 ·refine filter_one hx (by rw[decide_eq_true e];rfl) fun j y hj hy=>?_
  rw[decide_eq_false];rfl
  intro e2
  have h0:=Fl e2
  rcases Nat.lt_or_ge j k with g|g
  ·have:=hlo j y g hy;omega
  ·have hne:key x=key y:=by rw[Yq];unfold key;rw[e2]
   have:=ho k j x y (by omega) hx hy
   rw[hne,iK] at this;omega
 ·obtain⟨h1,h2⟩:=takeWhile_eq (l:=l.take k++l.drop (k+1)) (k:=k) (P:=fun x=>decide (cmp x n.1<0)) (by rw[List.length_append,htl];omega) (fun j y hj hy=>by
   rw[List.getElem?_append_left (by omega),List.getElem?_take,if_pos hj] at hy
   exact decide_eq_true (hlo j y hj hy)) (fun y hy=>by
   rw[List.getElem?_append_right (by omega),htl,Nat.sub_self,List.getElem?_drop] at hy
   exact decide_eq_false (hhi _ y (by omega) hy))
  unfold oM
  rw[h1,h2,List.take_left' htl,List.drop_left' htl]
  simp
theorem PD{α:Type}{l:List α}{k:Nat}(hk:k<l.length)(n:α):l.set k n=l.take k++[n]++l.drop (k+1):=by
 rw[List.set_eq_take_append_cons_drop,if_pos hk]
 simp
theorem CP(l:List Nd)(n:Nd)(hl:mM l)(hn:Sm n):oH (l,(n,()))=some ((aX l n).1,((aX l n).2,())):=by
 obtain⟨e,c1,c2⟩:=jf l hl
 have Gk:=hn.1
 unfold oH
 dsimp only
 rw[c1,aa,Ou n (by omega),aa]
 dsimp only
 by_cases L5:¬Valid l∨dK n=false
 ·have hp:aX l n=([],1):=by unfold aX;rw[if_pos L5]
  rw[hp]
  have:au (nt (nt (bp e 0))) (some (nt (dK n))) (some true)=some true:=by
   rcases L5 with h|h
   ·rw[show bp e 0=false by unfold bp;exact decide_eq_false fun h0=>h (c2.1 h0)];rfl
   ·rw[h];cases nt (nt (bp e 0))<;>rfl
  rw[this,aa,af]
 ·have hv:Valid l:=by
   by_cases h:Valid l
   ·exact h
   ·exact absurd (.inl h) L5
  have hm:dK n=true:=by
   cases h:dK n with
   | true=>rfl
   | false=>exact absurd (.inr h) L5
  obtain rfl:=c2.2 hv
  rw[hm]
  have:au (nt (nt (bp 0 0))) (some (nt true)) (some true)=some false:=rfl
  rw[this,aa,ag,kD _ (by omega),aa]
  dsimp only
  obtain⟨d,d1,d2⟩:=Ov l (aJ n.1).1 hl (by have:=Fo n.1;omega)
  rw[d1,aa]
  dsimp only
  by_cases hg:(¬((aJ n.1).1≠[]∧∀x∈l,x.1≠(aJ n.1).1))∧(¬((aJ n.1).1≠[]∧∀x∈l,x.1=(aJ n.1).1→x.2.1≠2))∧d=0
  ·obtain⟨g1,g2,hd0⟩:=hg
   subst hd0
   have hp:aX l n=(let r:=if(∃x∈l,x.1=n.1∧x.2.1=2)∧n.2.1=2 then l.filter (fun x=>!decide (x.1=n.1)) else jP l n.1
     if 64≤r.length then([],5) else(oM r n,0)):=by
    unfold aX;rw[if_neg L5,if_neg g1,if_neg g2]
   rw[show nt (bp 0 0)=false by rfl,ag]
   obtain⟨k,b,p1,p2,p3,p4⟩:=xY l n.1 hl (by omega)
   have hpl:=p4 hv.ord
   rw[p1,aa]
   dsimp only
   obtain⟨y6,e6,s6⟩:∃y6,au b (ah (idx l (k:Int)) (fun(y:Nd)=>some (bp y.2.1 2))) (some false)=some y6∧(au y6 (bp n.2.1 2) false=true↔((∃x∈l,x.1=n.1∧x.2.1=2)∧n.2.1=2)):=by
    cases b with
    | false =>
      refine⟨false,rfl,?_⟩
      rw[ag]
      exact⟨fun h=>(by cases h),fun⟨⟨x,hx,e,_⟩,_⟩=>absurd e (hpl.no rfl x hx)⟩
    | true =>
      obtain⟨x,hx,e⟩:=hpl.is rfl
      refine⟨bp x.2.1 2,by rw[af,aK hx,aa],?_⟩
      rw[lW,Bool.and_eq_true]
      unfold bp
      rw[decide_eq_true_eq,decide_eq_true_eq]
      refine⟨fun h=>⟨⟨x,List.mem_of_getElem? hx,e,h.1⟩,h.2⟩,fun⟨⟨y,hy,e2,gU⟩,h2⟩=>?_⟩
      have:=hv.ord.uniq (List.mem_of_getElem? hx) hy (by rw[e,e2])
      subst this
      exact⟨gU,h2⟩
   rw[e6,aa]
   by_cases hno:(∃x∈l,x.1=n.1∧x.2.1=2)∧n.2.1=2
   ·rw[s6.2 hno,af]
    have hb:b=true:=by
     cases b with
     | true=>rfl
     | false=>obtain⟨⟨x,hx,e,_⟩,_⟩:=hno;exact absurd e (hpl.no rfl x hx)
    obtain⟨x,hx,e⟩:=hpl.is hb
    have hk:=bB hx
    rw[AN (by have:=hl.1;omega),af,cL (by omega) (by unfold len;omega),af,aK hx,aa,aa,aa,ux]
    obtain⟨s1,s2⟩:=Lp hv.ord hx e
    have aap:=hv.VW
    rw[if_pos hno,s1] at hp
    have uQ:¬64≤(l.take k++l.drop (k+1)).length:=by simp;omega
    rw[hp]
    simp only[uQ,if_false]
    rw[s2,PD hk]
   ·have hs:au y6 (bp n.2.1 2) false=false:=by
     cases h:au y6 (bp n.2.1 2) false with
     | false=>rfl
     | true=>exact absurd (s6.1 h) hno
    rw[if_neg hno] at hp
    rw[hs,ag,aa]
    dsimp only
    rw[show nt (bp 0 0)=false by rfl,ag,AN (by have:=hl.1;omega),af]
    rcases PB l n hl Gk with ⟨i,x,hx,hg,hb,h⟩|⟨hb,h⟩
    ·obtain⟨w,L,w1,w2,w3,w4⟩:=PC l n hl Gk i x hx hg hb
     rw[h,aa]
     dsimp only
     rw[gK,ag,show bp (i:Int) (-1)=false by unfold bp;exact decide_eq_false (by omega),ag,w1,aa]
     dsimp only
     rw[bA (by omega) (by unfold len;omega) (Int.le_refl _),af,Fv L w (by omega),bA (Int.le_refl _) (by omega) (by omega),af,Fu L w (by omega),w4]
     have hlen:(jP l n.1).length=w:=by rw[←w4,List.length_take];omega
     refine Eq.trans (Ln (jP l n.1) n (hl.filter _) (hv.ord.filter _) Gk (minus (w:Int) 0) (by rw[hlen];unfold minus;omega)) ?_
     rw[hp]
     by_cases uQ:64≤(jP l n.1).length
     ·rw[if_pos uQ];simp only[uQ,if_true]
     ·rw[if_neg uQ];simp only[uQ,if_false]
    ·have hr:jP l n.1=l:=List.filter_eq_self.2 fun x hx=>by
      obtain⟨j,hj⟩:=fE.1 hx
      rw[hb j x hj];rfl
     rw[hr] at hp
     rw[h,aa]
     dsimp only
     rw[dN,af,show bp (-1) (-1)=true by rfl,af]
     have tv:=Ln l n hl hv.ord Gk (len l) rfl
     rw[p1] at tv
     refine Eq.trans tv ?_
     rw[hp]
     by_cases uQ:64≤l.length
     ·rw[if_pos uQ];simp only[uQ,if_true]
     ·rw[if_neg uQ];simp only[uQ,if_false]
  ·rcases d2 hv.ord with ⟨h0,hd⟩|⟨h0,⟨hno,hd⟩|⟨x,hx,hx1,⟨hx2,hd⟩|⟨hx2,hd⟩⟩⟩
   ·exact absurd ⟨fun h=>h.1 h0,fun h=>h.1 h0,hd⟩ hg
   ·subst hd
    have hp:aX l n=([],3):=by unfold aX;rw[if_neg L5,if_pos ⟨h0,hno⟩]
    rw[hp];rfl
   ·exact absurd ⟨fun h=>h.2 x hx hx1,fun h=>h.2 x hx hx1 hx2,hd⟩ hg
   ·subst hd
    have hp:aX l n=([],12):=by
     unfold aX
     rw[if_neg L5,if_neg (fun h=>h.2 x hx hx1),if_pos ⟨h0,fun y hy e=>by
      have:=hv.ord.uniq hx hy (by rw[hx1,e])
      subst this
      exact hx2⟩]
    rw[hp];rfl
end Go.Ge
namespace Go.Ge
set_option linter.unusedVariables false
set_option linter.unusedSimpArgs false
def fh(l:List Nd)(p:List UInt8)(b:Bool):List Nd:=l.filter fun x=>!bM (parts x.1) (parts p)&&(!b||!decide (x.1=p))
theorem wY(l:List Nd)(p:List UInt8)(b:Bool)(hl:mM l)(hp:p.length≤4096):gw (l,(p,(b,())))=some (fh l p b,()):=by
 unfold gw
 have hb:=hl.1
 have Zd:∀m:List Nd,m.flatMap (fun x=>if(!bM (parts x.1) (parts p)&&(!b||!decide (x.1=p)))=true then [x] else [])=fh m p b:=by
  intro m
  unfold fh
  induction m with
  | nil=>rfl
  | cons a r ih =>
    rw[List.flatMap_cons,ih,List.filter_cons]
    split<;>simp
 have h:=Fc (f:=fS (l,(p,(b,())))) l (fun a i=>(((),(i,())),(a,()))) (fun x=>if(!bM (parts x.1) (parts p)&&(!b||!decide (x.1=p)))=true then [x] else []) (((),((l.length:Int),())),(fh l p b,())) (by omega) (fun i x hx hi ha=>by
  unfold fS
  dsimp only
  have hlen:((l.take i).flatMap fun x=>if(!bM (parts x.1) (parts p)&&(!b||!decide (x.1=p)))=true then [x] else []).length≤4096:=by
   rw[Zd]
   unfold fh
   refine Nat.le_trans (List.length_filter_le _ _) ?_
   rw[List.length_take];omega
  rw[aF hi,af,aK hx,aa,Ju _ _ (by have:=(hl.at hx).1;omega) hp,aa,aa,aa,ha,bw (by simp only[List.length_singleton];omega)]
  dsimp only
  rw[AK]
  cases bM (parts x.1) (parts p)<;>cases b<;>cases decide (x.1=p)<;>simp[au,nt,ah,jj,app]) (by
  unfold fS
  dsimp only
  rw[aS,ag,Zd]
  rfl)
 have h':Loop (fS (l,(p,(b,())))) (((),((0:Int),())),(([]:List Nd),()))=some (((),((l.length:Int),())),(fh l p b,())):=h
 rw[h',aa]
theorem G5(l:List Nd)(p:List UInt8):fh l p true=jP l p:=by
 unfold fh jP
 congr 1
 funext x
 unfold gone
 cases bM (parts x.1) (parts p)<;>cases decide (x.1=p)<;>rfl
theorem Lq(l r:List Nd)(n:Nd)(hr:mM r)(hn:n.1.length≤200):∃k:Nat,k≤r.length∧Loop (iE (l,(n,())) ((r,()),())) (((0:Int),()),())=some (((k:Int),()),())∧oM r n=r.take k++[n]++r.drop k:=by
 have hb:=hr.1
 rcases AM (f:=iE (l,(n,())) ((r,()),())) r (fun i=>((i,()),())) (fun _ x=>!decide (cmp x n.1<0)) (fun i _=>(((i:Int),()),())) (((r.length:Int),()),()) (by omega) (fun i x hx hi ha=>by
  unfold iE
  dsimp only
  rw[aF hi,af,aK hx,aa,wU _ _ (by have:=(hr.at hx).1;omega) (by omega),aa,ha]
  dsimp only
  unfold cmp cm
  cases decide (cmpL (parts x.1) (parts n.1)<0)<;>rfl) (by
  unfold iE
  dsimp only
  rw[aS,ag]
  rfl) with ⟨i,x,hx,hp,hj,h⟩|⟨hn,h⟩
 ·refine⟨i,by have:=bB hx;omega,h,?_⟩
  obtain⟨h1,h2⟩:=takeWhile_eq (l:=r) (k:=i) (P:=fun x=>decide (cmp x n.1<0)) (by have:=bB hx;omega) (fun j y hji hy=>by
   have:=hj j y hji hy
   simpa using this) (fun y hy=>by
   rw[hx] at hy
   obtain rfl:=Option.some.inj hy
   simpa using hp)
  unfold oM
  rw[h1,h2];simp
 ·refine⟨r.length,Nat.le_refl _,h,?_⟩
  obtain⟨h1,h2⟩:=takeWhile_eq (l:=r) (k:=r.length) (P:=fun x=>decide (cmp x n.1<0)) (Nat.le_refl _) (fun j y hji hy=>by
   have:=hn j y hy
   simpa using this) (fun y hy=>by
   have:=bB hy;omega)
  unfold oM
  rw[h1,h2];simp
theorem wZ(l r:List Nd)(n:Nd)(hr:mM r)(hn:n.1.length≤200) :
  au (gj 64 (len r)) (some (([]:List Nd),((5:Int),()))) (ah (Loop (iE (l,(n,())) ((r,()),())) (((0:Int),()),())) fun(y9:(Int×Unit)×Unit)=>au (inside 0 y9.1.1 (len r))
   (au (fits (plus (len ([]:List Nd)) (len (sub r 0 (minus y9.1.1 0)))))
   (au (fits (plus (len (app ([]:List Nd) (sub r 0 (minus y9.1.1 0)))) (len [n])))
   (au (inside y9.1.1 (len r) (len r))
   (au (fits (plus (len (app (app ([]:List Nd) (sub r 0 (minus y9.1.1 0))) [n])) (len (sub r y9.1.1 (minus (len r) y9.1.1)))))
   (some (app (app (app ([]:List Nd) (sub r 0 (minus y9.1.1 0))) [n]) (sub r y9.1.1 (minus (len r) y9.1.1)),((0:Int),())))
   none) none) none) none) none)=some (if 64≤r.length then([],(5,())) else(oM r n,(0,()))):=by
 have hb:=hr.1
 rw[qW]
 by_cases h:64≤r.length
 ·rw[decide_eq_true (by unfold len;omega),af,if_pos h]
 ·rw[decide_eq_false (by unfold len;omega),ag,if_neg h]
  obtain⟨k,k1,k2,k3⟩:=Lq l r n hr hn
  rw[k2,aa]
  dsimp only
  have i1:inside 0 (k:Int) (len r)=true:=r5 (a:=0) (Nat.zero_le _) k1
  have i2:inside (k:Int) (len r) (len r)=true:=bA (by omega) (by unfold len;omega) (Int.le_refl _)
  rw[i1,af,lM,pZ r k k1,i2]
  have f1:fits (plus (len ([]:List Nd)) (len (r.take k)))=true:=bw (by rw[List.length_take];simp;omega)
  have f2:fits (plus (len (app ([]:List Nd) (r.take k))) (len [n]))=true:=bw (by rw[lf,List.nil_append,List.length_take];simp;omega)
  have f3:fits (plus (len (app (app ([]:List Nd) (r.take k)) [n])) (len (r.drop k)))=true:=bw (by rw[lf,lf,List.nil_append,List.length_append,List.length_take,List.length_drop];simp;omega)
  rw[f1,f2,f3,af,af,af,af,k3]
  rfl
theorem w5(l:List Nd)(n:Nd)(hl:mM l)(hn:Sm n):kr (l,(n,()))=some ((aX l n).1,((aX l n).2,())):=by
 obtain⟨e,c1,c2⟩:=mq l hl
 have Gk:=hn.1
 have hb:=hl.1
 unfold kr
 dsimp only
 rw[c1,aa,sS n (by omega) (by have:=hn.2.1;omega),aa]
 dsimp only
 by_cases L5:¬Valid l∨dK n=false
 ·have hp:aX l n=([],1):=by unfold aX;rw[if_pos L5]
  rw[hp]
  have:au (nt (nt e)) (some (nt (dK n))) (some true)=some true:=by
   rcases L5 with h|h
   ·rw[show e=false by
     cases e with
     | false=>rfl
     | true=>exact absurd (c2.1 rfl) h]
    rfl
   ·rw[h];cases nt (nt e)<;>rfl
  rw[this,aa,af]
 ·have hv:Valid l:=by
   by_cases h:Valid l
   ·exact h
   ·exact absurd (.inl h) L5
  have hm:dK n=true:=by
   cases h:dK n with
   | true=>rfl
   | false=>exact absurd (.inr h) L5
  obtain rfl:=c2.2 hv
  rw[hm]
  have:au (nt (nt true)) (some (nt true)) (some true)=some false:=rfl
  rw[this,aa,ag,qV _ (by omega),aa]
  dsimp only
  obtain⟨y4,e4,s4⟩:∃y4,au (nt (bZ (aJ n.1).1 [])) (ah (fC (l,((aJ n.1).1,()))) (fun(y:Int×Unit)=>some (cm y.1 0))) (some false)=some y4∧(y4=true↔((aJ n.1).1≠[]∧∀x∈l,x.1≠(aJ n.1).1)):=by
   by_cases h0:(aJ n.1).1=[]
   ·refine⟨false,by rw[h0];rfl,fun h=>(by cases h),fun h=>absurd h0 h.1⟩
   ·rw[br h0,aO,af]
    rcases wX l (aJ n.1).1 hl with ⟨i,x,hx,Ow,h⟩|⟨hno,h⟩
    ·refine⟨false,by rw[h,aa,bq (by omega)],fun h=>(by cases h),fun h=>absurd Ow (h.2 x (List.mem_of_getElem? hx))⟩
    ·exact⟨true,by rw[h,aa];rfl,fun _=>⟨h0,hno⟩,fun _=>rfl⟩
  rw[e4,aa]
  by_cases g1:(aJ n.1).1≠[]∧∀x∈l,x.1≠(aJ n.1).1
  ·have hp:aX l n=([],3):=by unfold aX;rw[if_neg L5,if_pos g1]
   rw[s4.2 g1,hp];rfl
  ·have:y4=false:=by
    cases y4 with
    | false=>rfl
    | true=>exact absurd (s4.1 rfl) g1
   rw[this,ag]
   obtain⟨d,d1,d2,d3⟩:=Fm l (aJ n.1).1 hl
   rw[d1,aa]
   dsimp only
   by_cases g2:(aJ n.1).1≠[]∧∀x∈l,x.1=(aJ n.1).1→x.2.1≠2
   ·have hp:aX l n=([],12):=by unfold aX;rw[if_neg L5,if_neg g1,if_pos g2]
    have:d=false:=by
     cases d with
     | false=>rfl
     | true =>
       rcases d2 rfl with h|⟨x,hx,hx1,hx2⟩
       ·exact absurd h g2.1
       ·exact absurd hx2 (g2.2 x hx hx1)
    rw[this,hp];rfl
   ·have:d=true:=by
     cases d with
     | true=>rfl
     | false=>exact absurd (d3 hv.ord rfl) g2
    rw[this,show nt true=false by rfl,ag]
    have hp:aX l n=(let r:=if(∃x∈l,x.1=n.1∧x.2.1=2)∧n.2.1=2 then l.filter (fun x=>!decide (x.1=n.1)) else jP l n.1
      if 64≤r.length then([],5) else(oM r n,0)):=by
     unfold aX;rw[if_neg L5,if_neg g1,if_neg g2]
    rcases wX l n.1 hl with ⟨i,x,hx,Ow,h⟩|⟨hno,h⟩
    ·have hi:=bB hx
     have hmem:=List.mem_of_getElem? hx
     rw[h,aa]
     dsimp only
     rw[eF (by omega),af,aK hx,aa,aa]
     by_cases VX:x.2.1=2∧n.2.1=2
     ·obtain⟨s1,s2⟩:=Lp hv.ord hx Ow
      rw[if_pos (show((∃x∈l,x.1=n.1∧x.2.1=2)∧n.2.1=2) from⟨⟨x,hmem,Ow,VX.1⟩,VX.2⟩),s1] at hp
      have i1:inside 0 (i:Int) (len l)=true:=r5 (a:=0) (Nat.zero_le _) (by omega)
      have i2:inside ((i+1:Nat):Int) (len l) (len l)=true:=bA (by omega) (by unfold len;omega) (Int.le_refl _)
      rw[ck VX.1,ck VX.2,af,af,i1,af,lM,bI (by omega),i2,pZ l (i+1) (by omega)]
      have f1:fits (plus (len ([]:List Nd)) (len (l.take i)))=true:=bw (by rw[List.length_take];simp;omega)
      have f2:fits (plus (len (app ([]:List Nd) (l.take i))) (len (l.drop (i+1))))=true:=bw (by rw[lf,List.nil_append,List.length_take,List.length_drop];omega)
      rw[f1,f2,af,af,af,aa]
      dsimp only
      have hr:mM (l.take i++l.drop (i+1)):=by rw[←s1];exact hl.filter _
      refine Eq.trans (wZ l (l.take i++l.drop (i+1)) n hr Gk) ?_
      rw[hp]
      by_cases uQ:64≤(l.take i++l.drop (i+1)).length
      ·rw[if_pos uQ];simp only[uQ,if_true]
      ·rw[if_neg uQ];simp only[uQ,if_false]
     ·have hs:au (bp x.2.1 2) (bp n.2.1 2) false=false:=by
       unfold bp
       by_cases h1:x.2.1=2
       ·rw[decide_eq_true h1,af];exact decide_eq_false fun h2=>VX ⟨h1,h2⟩
       ·rw[decide_eq_false h1,ag]
      rw[if_neg (show ¬((∃x∈l,x.1=n.1∧x.2.1=2)∧n.2.1=2) from fun h=>by
       obtain⟨⟨y,hy,e2,gU⟩,h2⟩:=h
       have:=hv.ord.uniq hmem hy (by rw[Ow,e2])
       subst this
       exact VX ⟨gU,h2⟩)] at hp
      rw[hs,ag,wY l n.1 true hl (by omega),G5]
      simp only[aa,af]
      refine Eq.trans (wZ l (jP l n.1) n (hl.filter _) Gk) ?_
      rw[hp]
      by_cases uQ:64≤(jP l n.1).length
      ·rw[if_pos uQ];simp only[uQ,if_true]
      ·rw[if_neg uQ];simp only[uQ,if_false]
    ·have hne:¬((∃x∈l,x.1=n.1∧x.2.1=2)∧n.2.1=2):=fun⟨⟨y,hy,e2,_⟩,_⟩=>hno y hy e2
     rw[if_neg hne,NF hv (va hm) hno] at hp
     rw[h,aa]
     dsimp only
     rw[show gj 0 (-1)=false by rfl]
     simp only[aa,ag]
     refine Eq.trans (wZ l l n hl Gk) ?_
     rw[hp]
     by_cases uQ:64≤l.length
     ·rw[if_pos uQ];simp only[uQ,if_true]
     ·rw[if_neg uQ];simp only[uQ,if_false]
end Go.Ge
namespace Go.Ge
set_option linter.unusedVariables false
set_option linter.unusedSimpArgs false
theorem oN{n:Nd}(h:dK n=true):nN n.1=true∧0≤n.2.2.1∧n.2.2.1≤4095∧CN n=true:=by
 unfold dK at h
 simp only[Bool.and_eq_true,decide_eq_true_eq] at h
 exact⟨h.1.1.1,h.1.1.2,h.1.2,h.2⟩
end Go.Ge
namespace Go.Ge
set_option linter.unusedVariables false
set_option linter.unusedSimpArgs false
def Ox:Nd:=([],(0,(0,([],([],())))))
def findF(l:List Nd)(p:List UInt8):Nd×Bool×Unit:=match l.find? fun x=>decide (x.1=p) with
 | some x=>(x,(true,()))
 | none=>(Ox,(false,()))
theorem sg{l:List Nd}{p:List UInt8}(h:∀x∈l,x.1≠p):findF l p=(Ox,(false,())):=by
 unfold findF
 rw[List.find?_eq_none.2 (fun x hx=>by simp[h x hx])]
theorem gZ{l:List Nd}(ho:Ord l){p:List UInt8}{x:Nd}(hx:x∈l)(e:x.1=p):findF l p=(x,(true,())):=by
 unfold findF
 cases h:l.find? fun x=>decide (x.1=p) with
 | none=>have:=List.find?_eq_none.1 h x hx;simp[e] at this
 | some y =>
   have h1:=List.find?_some h
   have h2:=List.mem_of_find?_eq_some h
   have h1:y.1=p:=by simpa using h1
   have:=ho.uniq hx h2 (by rw[e,h1])
   subst this
   rfl
theorem B3(l:List Nd)(p:List UInt8)(hl:mM l)(hp:p.length≤4096)(hv:Valid l):mJ (l,(p,()))=some (findF l p):=by
 obtain⟨e,c1,c2⟩:=jf l hl
 obtain rfl:=c2.2 hv
 obtain⟨k,b,p1,p2,p3,p4⟩:=xY l p hl hp
 have hpl:=p4 hv.ord
 unfold mJ
 dsimp only
 rw[c1,aa]
 dsimp only
 rw[show nt (bp 0 0)=false by rfl,ag,p1,aa]
 dsimp only
 cases b with
 | false=>rw[aO,af,sg (hpl.no rfl)];rfl
 | true =>
   obtain⟨x,hx,e⟩:=hpl.is rfl
   rw[aT,ag,aK hx,aa,gZ hv.ord (List.mem_of_getElem? hx) e]
def TN:List Nd→Bool
 | a::b::r=>decide (cmpL (key a) (key b)<0)&&TN (b::r)
 | _=>true
theorem RW:∀{l:List Nd},TN l=true→Ord l:=by
 intro l h
 refine Fq ?_
 induction l with
 | nil=>intro k x y hx;simp at hx
 | cons a r ih =>
   cases r with
   | nil=>intro k x y hx hy;simp at hy
   | cons b r =>
     simp only[TN,Bool.and_eq_true,decide_eq_true_eq] at h
     intro k x y hx hy
     cases k with
     | zero =>
       obtain rfl:a=x:=by simpa using hx
       obtain rfl:b=y:=by simpa using hy
       exact h.1
     | succ k=>exact ih h.2 k x y hx hy
def RX(l:List Nd):Bool:=decide (l.length≤64)&&TN l&&l.all dK&&l.all fun x=>decide ((aJ x.1).1=[])||l.any fun y=>decide (y.1=(aJ x.1).1)&&decide (y.2.1=2)
theorem AU{l:List Nd}(h:RX l=true):Valid l:=by
 unfold RX at h
 simp only[Bool.and_eq_true,decide_eq_true_eq] at h
 refine⟨h.1.1.1,RW h.1.1.2,fun x hx=>List.all_eq_true.1 h.1.2 x hx,fun x hx=>?_⟩
 have:=List.all_eq_true.1 h.2 x hx
 simp only[Bool.or_eq_true,decide_eq_true_eq,List.any_eq_true,Bool.and_eq_true] at this
 exact this
theorem Ze{n m:Nd}(h:Sm n)(g:Sm m):mM [n,m]:=⟨by simp,fun x hx=>by
 rw[List.mem_cons,List.mem_singleton] at hx
 rcases hx with rfl|rfl
 ·exact h
 ·exact g⟩
theorem G6(l:List Nd)(hl:l.length≤4294967296):gI (l,(l,()))=some (true,()):=by
 unfold gI
 dsimp only
 rw[j9,aT,ag]
 rcases AM (f:=fc (l,(l,()))) l (fun i=>((false,(i,())),())) (fun _ _=>false) (fun i x=>(1,((false,((i:Int),())),()))) ((0:Nat),((false,((l.length:Int),())),())) hl (fun i x hx hi ha=>by
  unfold fc
  dsimp only
  rw[aF hi,af,af,aK hx,aa,aa,rS,rS,rS,j9,j9,ha]
  rfl) (by unfold fc;dsimp only;rw[aS,ag,ag]) with ⟨i,x,_,hp,_⟩|⟨hn,h⟩
 ·cases hp
 ·rw[h];rfl
theorem PE(l:List Nd)(n:Nat)(c:Int)(hc:c=n)(hn:n≤4096):∃b,mI (l,(c,()))=some (b,())∧(b=true→l.length≤n∧mM l):=by
 subst hc
 unfold mI
 rcases Vc (f:=nE (l,((n:Int),()))) l n (fun i=>((false,(i,())),())) (fun _ x=>decide (200<x.1.length)||decide (200<x.2.2.2.2.1.length)||decide (1024<x.2.2.2.1.length)) (fun i x=>(1,((false,((i:Int),())),()))) (fun m=>(0,((false,((m:Int),())),()))) (by omega) (fun i x hx hi hin ha=>by
  unfold nE
  dsimp only
  have l1:∀{m:List UInt8},cm 200 (len m)=decide (200<m.length):=fun {m}=>by unfold cm len;apply decide_eq_decide.2;omega
  have l2:∀{m:List UInt8},cm 1024 (len m)=decide (1024<m.length):=fun {m}=>by unfold cm len;apply decide_eq_decide.2;omega
  rw[aF hi,af,cH (show(i:Int)<n by omega),af,aK hx,aa,aa,aa,l1,l1,l2,ha]
  cases decide (200<x.1.length)<;>cases decide (200<x.2.2.2.2.1.length)<;>cases decide (1024<x.2.2.2.1.length)<;>rfl) (by
  unfold nE
  dsimp only
  have:au (cm ((min n l.length:Nat):Int) (len l)) (cm ((min n l.length:Nat):Int) (n:Int)) false=false:=by
   by_cases h:l.length≤n
   ·rw[Nat.min_eq_right h,aS,ag]
   ·rw[Nat.min_eq_left (by omega),bq (Int.le_refl _)]
    cases cm (n:Int) (len l)<;>rfl
  rw[this,ag]) with ⟨i,x,hi,hx,hp,_,h⟩|⟨hn2,h⟩
 ·rw[h];exact⟨false,rfl,fun h=>(by cases h)⟩
 ·rw[h]
  refine⟨_,rfl,fun hb=>?_⟩
  dsimp only at hb
  rw[u5] at hb
  have h8:=of_decide_eq_true hb
  refine⟨h8,by omega,fun x hx=>?_⟩
  obtain⟨i,hi⟩:=fE.1 hx
  have:=hn2 i x (by have:=bB hi;omega) hi
  simp only[Bool.or_eq_false_iff,decide_eq_false_iff_not,Nat.not_lt] at this
  exact⟨this.1.1,by omega,by omega⟩
end Go.Ge
namespace Go.Ge
set_option linter.unusedVariables false
set_option linter.unusedSimpArgs false
set_option synthInstance.maxHeartbeats 200000 in
set_option synthInstance.maxSize 4000 in
instance Zf:DecidableEq Nd:=inferInstance
theorem Lr(l m:List Nd)(hl:l.length≤4294967296):gI (l,(m,()))=some (decide (l=m),()):=by
 by_cases e:l=m
 ·subst e
  rw[G6 l hl];simp
 ·unfold gI
  dsimp only
  rw[K3,decide_eq_false e]
  by_cases hlen:l.length=m.length
  ·rw[decide_eq_true hlen,aT,ag]
   rcases AM (f:=fc (l,(m,()))) l (fun i=>((false,(i,())),())) (fun i x=>match m[i]? with|some y=>!decide (x=y)|none=>false) (fun i x=>(1,((false,((i:Int),())),()))) ((0:Nat),((false,((l.length:Int),())),())) hl (fun i x hx hi ha=>by
    unfold fc
    dsimp only
    obtain⟨y,hy⟩:∃y,m[i]?=some y:=⟨_,List.getElem?_eq_getElem (by omega)⟩
    rw[aF hi,aF (show i<m.length by omega),af,af,aK hx,aa,aK hy,aa,ha,hy]
    have hq:an (bZ x.1 y.1) (an (bp x.2.1 y.2.1) (an (bp x.2.2.1 y.2.2.1) (an (bZ x.2.2.2.1 y.2.2.2.1) (an (bZ x.2.2.2.2.1 y.2.2.2.2.1) true))))=decide (x=y):=by
     obtain⟨x1,x2,x3,x4,x5,x6⟩:=x
     obtain⟨y1,y2,y3,y4,y5,y6⟩:=y
     unfold an bZ bp
     rw[Bool.eq_iff_iff]
     simp
    rw[hq]
    by_cases hxy:x=y
    ·simp[hxy,au,nt]
    ·simp[hxy,au,nt]) (by unfold fc;dsimp only;rw[aS,ag,ag]) with ⟨i,x,_,_,_,h⟩|⟨hn,h⟩
   ·rw[h];rfl
   ·exfalso
    apply e
    apply List.ext_getElem?
    intro i
    by_cases hi:i<l.length
    ·have hx:l[i]?=some l[i]:=List.getElem?_eq_getElem hi
     have hy:m[i]?=some m[i]:=List.getElem?_eq_getElem (by omega)
     have:=hn i l[i] hx
     rw[hy] at this
     simp at this
     rw[hx,hy,this]
    ·rw[List.getElem?_eq_none (by omega),List.getElem?_eq_none (by omega)]
  ·rw[decide_eq_false hlen,aO,af]
end Go.Ge
namespace Go.Ge
set_option linter.unusedVariables false
set_option linter.unusedSimpArgs false
theorem H7(a:Nd)(r:List Nd)(n:Nd):oM (a::r) n=if cmp a n.1<0 then a::oM r n else n::a::r:=by
 unfold oM
 by_cases h:cmp a n.1<0
 ·rw[if_pos h,List.takeWhile_cons,List.dropWhile_cons]
  simp[h]
 ·rw[if_neg h,List.takeWhile_cons,List.dropWhile_cons]
  simp[h]
theorem lN{r:List Nd}{n x:Nd}:x∈oM r n↔x=n∨x∈r:=by
 induction r with
 | nil=>simp[oM]
 | cons a r ih =>
   rw[H7]
   split
   ·rw[List.mem_cons,ih,List.mem_cons]
    constructor
    ·rintro(h|h|h)
     ·exact .inr (.inl h)
     ·exact .inl h
     ·exact .inr (.inr h)
    ·rintro(h|h|h)
     ·exact .inr (.inl h)
     ·exact .inl h
     ·exact .inr (.inr h)
   ·rw[List.mem_cons]
theorem RY(r:List Nd)(n:Nd):(oM r n).length=r.length+1:=by
 unfold oM
 rw[List.length_append,List.length_cons,←Nat.add_assoc,←List.length_append,List.takeWhile_append_dropWhile]
theorem rC{l:List Nd}:Ord l↔l.Pairwise fun x y=>cmpL (key x) (key y)<0:=by
 constructor
 ·intro h
  rw[List.pairwise_iff_getElem]
  intro i j hi hj hij
  exact h i j _ _ hij (List.getElem?_eq_getElem hi) (List.getElem?_eq_getElem hj)
 ·intro h i j x y hij hx hy
  rw[List.pairwise_iff_getElem] at h
  obtain⟨h1,h2⟩:=List.getElem?_eq_some_iff.1 hx
  obtain⟨h3,h4⟩:=List.getElem?_eq_some_iff.1 hy
  rw[←h2,←h4]
  exact h i j h1 h3 hij
theorem RZ{r:List Nd}{n:Nd}(hr:Ord r)(hn:∀x∈r,x.1≠n.1):Ord (oM r n):=by
 rw[rC] at hr⊢
 induction r with
 | nil=>simp[oM]
 | cons a r ih =>
   rw[List.pairwise_cons] at hr
   rw[H7]
   split
   ·rename_i h
    refine List.pairwise_cons.2 ⟨fun y hy=>?_,ih hr.2 fun x hx=>hn x (by simp[hx])⟩
    rcases lN.1 hy with rfl|hy
    ·exact h
    ·exact hr.1 y hy
   ·rename_i h
    have ha:cmpL (key n) (key a)<0:=by
     have h1:cmp a n.1≠0:=fun e=>hn a (by simp) (Ll e)
     have h2:cmpL (key n) (key a)=- cmpL (key a) (key n):=K4 _ _
     have h3:cmp a n.1=cmpL (key a) (key n):=rfl
     omega
    refine List.pairwise_cons.2 ⟨fun y hy=>?_,List.pairwise_cons.2 hr⟩
    rcases List.mem_cons.1 hy with rfl|hy
    ·exact ha
    ·exact kC ha (hr.1 y hy)
theorem Fx{x y:Nd}{p:List UInt8}(hu:(aJ x.1).1≠[])(e:y.1=(aJ x.1).1)(h:bM (parts y.1) (parts p)=true):bM (parts x.1) (parts p)=true:=by
 have hk:=mo hu
 rw[←e] at hk
 unfold bM at h⊢
 obtain⟨h1,h2⟩:=of_decide_eq_true h
 refine decide_eq_true ⟨?_,?_⟩
 ·rw[hk,List.length_append];omega
 ·rw[hk,List.take_append_of_le_length (by omega),h2]
theorem si{x:Nd}(hu:(aJ x.1).1≠[]):bM (parts x.1) (parts (aJ x.1).1)=true:=by
 have hk:=mo hu
 unfold bM
 refine decide_eq_true ⟨?_,?_⟩
 ·rw[hk,List.length_append];simp
 ·rw[hk];simp
def D0(l:List Nd)(n:Nd)(r:List Nd):Prop :=
 (((∃x∈l,x.1=n.1∧x.2.1=2)∧n.2.1=2)∧r=l.filter (fun x=>!decide (x.1=n.1)))∨((¬((∃x∈l,x.1=n.1∧x.2.1=2)∧n.2.1=2))∧r=jP l n.1)
theorem zy(l:List Nd)(n:Nd):((aX l n).1=[]∧(aX l n).2≠0) ∨
  (Valid l∧dK n=true∧((aJ n.1).1=[]∨∃x∈l,x.1=(aJ n.1).1∧x.2.1=2)∧∃r,D0 l n r∧r.length<64∧aX l n=(oM r n,0)):=by
 unfold aX
 by_cases h1:¬Valid l∨dK n=false
 ·rw[if_pos h1];exact .inl ⟨rfl,by decide⟩
 ·rw[if_neg h1]
  by_cases h2:(aJ n.1).1≠[]∧∀x∈l,x.1≠(aJ n.1).1
  ·rw[if_pos h2];exact .inl ⟨rfl,by decide⟩
  ·rw[if_neg h2]
   by_cases h3:(aJ n.1).1≠[]∧∀x∈l,x.1=(aJ n.1).1→x.2.1≠2
   ·rw[if_pos h3];exact .inl ⟨rfl,by decide⟩
   ·rw[if_neg h3]
    have hv:Valid l:=Classical.byContradiction fun h=>h1 (.inl h)
    have hm:dK n=true:=by
     cases h:dK n with
     | true=>rfl
     | false=>exact absurd (.inr h) h1
    have hu:(aJ n.1).1=[]∨∃x∈l,x.1=(aJ n.1).1∧x.2.1=2:=by
     by_cases h0:(aJ n.1).1=[]
     ·exact .inl h0
     ·right
      refine Classical.byContradiction fun h=>h3 ⟨h0,fun x hx e h2=>h ⟨x,hx,e,h2⟩⟩
    by_cases h4:(∃x∈l,x.1=n.1∧x.2.1=2)∧n.2.1=2
    ·simp only[if_pos h4]
     by_cases h5:64≤(l.filter fun x=>!decide (x.1=n.1)).length
     ·rw[if_pos h5];exact .inl ⟨rfl,by decide⟩
     ·rw[if_neg h5]
      exact .inr ⟨hv,hm,hu,_,.inl ⟨h4,rfl⟩,by omega,rfl⟩
    ·simp only[if_neg h4]
     by_cases h5:64≤(jP l n.1).length
     ·rw[if_pos h5];exact .inl ⟨rfl,by decide⟩
     ·rw[if_neg h5]
      exact .inr ⟨hv,hm,hu,_,.inr ⟨h4,rfl⟩,by omega,rfl⟩
theorem D0.sub{l r:List Nd}{n:Nd}(h:D0 l n r):(∀x∈r,x∈l∧x.1≠n.1)∧∃P,r=l.filter P:=by
 rcases h with ⟨_,rfl⟩|⟨_,rfl⟩
 ·refine⟨fun x hx=>?_,_,rfl⟩
  have:=List.mem_filter.1 hx
  simpa using this
 ·refine⟨fun x hx=>?_,_,rfl⟩
  have:=List.mem_filter.1 hx
  unfold gone at this
  simp at this
  exact⟨this.1,this.2.1⟩
theorem H8{l r:List Nd}{n:Nd}(hv:Valid l)(hm:dK n=true)(hu:(aJ n.1).1=[]∨∃x∈l,x.1=(aJ n.1).1∧x.2.1=2)(hr:D0 l n r)(uQ:r.length<64):Valid (oM r n):=by
 obtain⟨hsub,P,hP⟩:=hr.sub
 have ho:Ord r:=by rw[hP];exact hv.ord.filter P
 refine⟨by rw[RY];omega,RZ ho fun x hx=>(hsub x hx).2,fun x hx=>?_,fun x hx=>?_⟩
 ·rcases lN.1 hx with rfl|hx
  ·exact hm
  ·exact hv.may x (hsub x hx).1
 ·rcases lN.1 hx with rfl|hx
  ·
   rcases hu with h|⟨y,hy,hy1,gU⟩
   ·exact .inl h
   ·by_cases h0:(aJ x.1).1=[]
    ·exact .inl h0
    ·right
     refine⟨y,lN.2 (.inr ?_),hy1,gU⟩
     have qv:=si h0
     rw[←hy1] at qv
     have hlen:(parts y.1).length<(parts x.1).length:=by
      unfold bM at qv
      exact(of_decide_eq_true qv).1
     have hne:y.1≠x.1:=fun e=>by rw[e] at hlen;omega
     have hnu:bM (parts y.1) (parts x.1)=false:=by
      unfold bM
      exact decide_eq_false fun h=>by omega
     rcases hr with ⟨_,rfl⟩|⟨_,rfl⟩
     ·exact List.mem_filter.2 ⟨hy,by simp[hne]⟩
     ·exact List.mem_filter.2 ⟨hy,by unfold gone;simp[hne,hnu]⟩
  ·rcases hv.up x (hsub x hx).1 with h|⟨y,hy,hy1,gU⟩
   ·exact .inl h
   ·by_cases h0:(aJ x.1).1=[]
    ·exact .inl h0
    ·right
     have qv:=si h0
     by_cases e:y.1=n.1
     ·rcases hr with ⟨h4,rfl⟩|⟨_,rfl⟩
      ·exact⟨n,lN.2 (.inl rfl),by rw[←e,hy1],h4.2⟩
      ·have:=(List.mem_filter.1 hx).2
       rw[←hy1,e] at qv
       unfold gone at this
       rw[qv] at this
       simp at this
     ·refine⟨y,lN.2 (.inr ?_),hy1,gU⟩
      rcases hr with ⟨_,rfl⟩|⟨_,rfl⟩
      ·exact List.mem_filter.2 ⟨hy,by simp[e]⟩
      ·refine List.mem_filter.2 ⟨hy,?_⟩
       have hx2:=(List.mem_filter.1 hx).2
       unfold gone at hx2⊢
       cases hun:bM (parts y.1) (parts n.1) with
       | false=>simp[e]
       | true =>
         rw[Fx h0 hy1 hun] at hx2
         simp at hx2
end Go.Ge
