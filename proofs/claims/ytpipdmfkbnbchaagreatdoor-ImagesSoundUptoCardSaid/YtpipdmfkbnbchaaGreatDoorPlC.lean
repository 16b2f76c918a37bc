/- Plain laws of what the functions compute: part 3. -/
import Derived.Test.YtpipdmfkbnbchaaGreatDoorPlB
import Derived.Test.YtpipdmfkbnbchaaGreatDoorGeI
namespace Go.Ge
set_option linter.unusedSectionVars false
variable [Lp]
set_option linter.unusedVariables false
set_option linter.unusedSimpArgs false
def cv:List UInt8→List (List UInt8)
 | []=>[[]]
 | b::r=>if b=47 then []::cv r else match cv r with
   | h::t=>(b::h)::t
   | []=>[[b]]
theorem oZ(s:List UInt8):cv s≠[]:=by
 cases s with
 | nil=>simp[cv]
 | cons b r =>
   unfold cv
   split
   ·simp
   ·split<;>simp
theorem jM{b:UInt8}(h:b≠47){r x:List UInt8}{t:List (List UInt8)}(e:cv r=x::t):cv (b::r)=(b::x)::t:=by
 rw[cv,if_neg h,e]
def parts(p:List UInt8):List (List UInt8):=if p=[] then [] else cv p
theorem Xc(c:UInt8):bC (u8 c) 47=decide (c=47):=Bz (n:=47)
theorem acq(c:UInt8):bC (u8 c) 0=decide (c=0):=Bz (n:=0)
theorem gi(p:List UInt8)(hp:p.length≤1048576):dN (p,())=some (parts p,()):=by
 unfold dN parts
 dsimp only
 by_cases h:p=[]
 ·rw[fE h,ag,if_pos h]
 ·rw[cu h,af,if_neg h]
  have key:=uh (f:=ju (p,())) p (fun(s:List UInt8×List (List UInt8)) i=>(((),(s.1,((i:Int),()))),(s.2,())))
   (fun i s x=>some (.inl (if x=47 then([],s.2++[s.1]) else(s.1++[x],s.2)))) (fun i s=>(((),(s.1,((i:Int),()))),(s.2,()))) (fun i s=>s.1.length≤i∧s.2.length≤i)
   (fun s i x hx hi hI=>by
    unfold ju
    dsimp only
    rw[au hi,ag,az hx,aa,Xc]
    by_cases hq:x=47
    ·rw[decide_eq_true hq,ag,cM (by simp only[List.length_cons,List.length_nil];omega),ag,aa,aZ (by omega)]
     simp only[if_pos hq]
     rfl
    ·rw[decide_eq_false hq,af,aZ (by omega),qH (by omega) (by omega),ag,sub_one hx,cM (by simp only[List.length_cons,List.length_nil];omega),ag,aa]
     simp only[if_neg hq]
     rfl)
   (fun s i x s' hx hI hs=>by
    obtain rfl:=Sum.inl.inj (Option.some.inj hs)
    by_cases hq:x=47
    ·simp only[if_pos hq,List.length_append,List.length_cons,List.length_nil];omega
    ·simp only[if_neg hq,List.length_append,List.length_cons,List.length_nil];omega)
   (fun s hI=>by
    unfold ju
    dsimp only
    rw[aE,af]
    rfl)
   (fun s i x _ _ h=>by cases h) ([],[]) ⟨Nat.le_refl _,Nat.le_refl _⟩
  have run:∀(r:List UInt8) (i:Nat) (a:List UInt8) (o:List (List UInt8)),∃a' o' j,uN (fun i (s:List UInt8×List (List UInt8)) x=>some (.inl (if x=47 then([],s.2++[s.1]) else(s.1++[x],s.2)))) (fun i (s:List UInt8×List (List UInt8))=>(((),(s.1,((i:Int),()))),(s.2,()))) r i (a,o)=some (((),(a',(j,()))),(o',())) ∧
    o'++[a']=o++(match cv r with|h::t=>(a++h)::t|[]=>[a])∧o'.length≤o.length+r.length:=by
   intro r
   induction r with
   | nil=>intro i a o;exact⟨a,o,_,rfl,by simp[cv],by simp⟩
   | cons x r ih =>
     intro i a o
     by_cases hq:x=47
     ·obtain⟨a',o',j,h1,h2,h3⟩:=ih (i+1) [] (o++[a])
      refine⟨a',o',j,?_,?_,?_⟩
      ·unfold uN
       simp only[if_pos hq]
       exact h1
      ·rw[h2,cv,if_pos hq]
       cases hs:cv r with
       | nil=>exact absurd hs (oZ r)
       | cons h t=>simp
      ·simp only[List.length_append,List.length_cons,List.length_nil] at h3⊢;omega
     ·obtain⟨a',o',j,h1,h2,h3⟩:=ih (i+1) (a++[x]) o
      refine⟨a',o',j,?_,?_,?_⟩
      ·unfold uN
       simp only[if_neg hq]
       exact h1
      ·rw[h2]
       cases hs:cv r with
       | nil=>exact absurd hs (oZ r)
       | cons h t=>rw[jM hq hs];simp
      ·simp only[List.length_cons] at h3⊢;omega
  obtain⟨a',o',j,h1,h2,h3⟩:=run p 0 [] []
  have key':Loop (ju (p,())) (((),(([]:List UInt8),((0:Int),()))),(([]:List (List UInt8)),()))=some (((),(a',(j,()))),(o',())):=key.trans h1
  rw[key',aa]
  dsimp only
  simp only[List.length_nil] at h3
  rw[cM (by simp only[List.length_cons,List.length_nil];omega),ag,Cv,h2]
  cases hs:cv p with
  | nil=>exact absurd hs (oZ p)
  | cons h t=>simp
def aM:List (List UInt8)→List UInt8
 | []=>[]
 | [x]=>x
 | x::y::r=>x++47::aM (y::r)
theorem tq(s:List UInt8):aM (cv s)=s:=by
 induction s with
 | nil=>rfl
 | cons b r ih =>
   by_cases h:b=47
   ·subst h
    rw[cv,if_pos rfl]
    cases hs:cv r with
    | nil=>exact absurd hs (oZ r)
    | cons x t=>rw[aM,←hs,ih];rfl
   ·cases hs:cv r with
    | nil=>exact absurd hs (oZ r)
    | cons x t =>
      rw[jM h hs]
      rw[hs] at ih
      cases t with
      | nil=>rw[aM] at ih⊢;rw[ih]
      | cons y t=>rw[aM] at ih⊢;rw[List.cons_append,ih]
theorem fG(p:List UInt8):aM (parts p)=p:=by
 unfold parts
 by_cases h:p=[]
 ·rw[if_pos h,h];rfl
 ·rw[if_neg h,tq]
theorem CA(x:List UInt8)(hx:47∉x)(r:List UInt8):cv (x++47::r)=x::cv r:=by
 induction x with
 | nil=>rw[List.nil_append,cv,if_pos rfl]
 | cons b x ih =>
   simp only[List.mem_cons,not_or] at hx
   exact jM (fun e=>hx.1 e.symm) (ih hx.2)
theorem mT(x:List UInt8)(hx:47∉x):cv x=[x]:=by
 induction x with
 | nil=>rfl
 | cons b x ih =>
   simp only[List.mem_cons,not_or] at hx
   exact jM (fun e=>hx.1 e.symm) (ih hx.2)
theorem D4(l:List (List UInt8))(hne:l≠[])(h:∀x∈l,47∉x):cv (aM l)=l:=by
 induction l with
 | nil=>exact absurd rfl hne
 | cons x r ih =>
   cases r with
   | nil=>rw[aM];exact mT x (h x (List.mem_cons_self ..))
   | cons y r =>
     rw[aM,CA x (h x (List.mem_cons_self ..)),ih (by simp) (fun z hz=>h z (List.mem_cons_of_mem _ hz))]
theorem Sy(s:List UInt8):∀x∈cv s,47∉x∧x.length≤s.length:=by
 induction s with
 | nil=>intro x hx;simp[cv] at hx;subst hx;simp
 | cons b r ih =>
   intro x hx
   by_cases h:b=47
   ·rw[cv,if_pos h] at hx
    rcases List.mem_cons.1 hx with rfl|hx
    ·simp
    ·obtain⟨h1,h2⟩:=ih x hx
     exact⟨h1,by simp only[List.length_cons];omega⟩
   ·cases hs:cv r with
    | nil=>exact absurd hs (oZ r)
    | cons y t =>
      rw[jM h hs] at hx
      rw[hs] at ih
      rcases List.mem_cons.1 hx with rfl|hx
      ·obtain⟨h1,h2⟩:=ih y (List.mem_cons_self ..)
       exact⟨by simp only[List.mem_cons,not_or];exact⟨fun e=>h e.symm,h1⟩,by simp only[List.length_cons];omega⟩
      ·obtain⟨h1,h2⟩:=ih x (List.mem_cons_of_mem _ hx)
       exact⟨h1,by simp only[List.length_cons];omega⟩
theorem BC(s:List UInt8):(cv s).length≤s.length+1:=by
 induction s with
 | nil=>simp[cv]
 | cons b r ih =>
   by_cases h:b=47
   ·rw[cv,if_pos h];simp only[List.length_cons];omega
   ·cases hs:cv r with
    | nil=>exact absurd hs (oZ r)
    | cons y t=>rw[jM h hs];rw[hs] at ih;simp only[List.length_cons] at ih⊢;omega
theorem Fj(p:List UInt8):∀x∈parts p,47∉x∧x.length≤p.length:=by
 unfold parts
 by_cases h:p=[]
 ·rw[if_pos h];intro x hx;cases hx
 ·rw[if_neg h];exact Sy p
theorem jU(p:List UInt8):(parts p).length≤p.length+1:=by
 unfold parts
 by_cases h:p=[]
 ·rw[if_pos h];simp
 ·rw[if_neg h];exact BC p
theorem mj(l:List (List UInt8))(h:∀x∈l,47∉x∧x≠[]):parts (aM l)=l:=by
 unfold parts
 cases l with
 | nil=>rfl
 | cons x r =>
   have hne:aM (x::r)≠[]:=by
    have:=(h x (List.mem_cons_self ..)).2
    cases r with
    | nil=>rw[aM];exact this
    | cons y r=>rw[aM];simp
   rw[if_neg hne,D4 _ (by simp) (fun z hz=>(h z hz).1)]
end Go.Ge
namespace Go.Ge
set_option linter.unusedSectionVars false
variable [Lp]
set_option linter.unusedVariables false
set_option linter.unusedSimpArgs false
theorem zI(l:List (List UInt8))(hl:l.length≤1048576)(hx:(aM l).length≤1048576):mN (l,())=some (aM l,()):=by
 unfold mN
 have pre:∀(a b:List (List UInt8)),a≠[]→b≠[]→aM (a++b)=aM a++47::aM b:=by
  intro a
  induction a with
  | nil=>intro b h;exact absurd rfl h
  | cons x r ih =>
    intro b _ hb
    cases r with
    | nil =>
      cases b with
      | nil=>exact absurd rfl hb
      | cons y b=>rfl
    | cons y r =>
      have:=ih b (by simp) hb
      rw[List.cons_append,List.cons_append,aM,aM,←List.cons_append,this]
      simp
 have mono:∀i,(aM (l.take i)).length≤(aM l).length:=by
  intro i
  by_cases ha:l.take i=[]
  ·rw[ha];simp[aM]
  ·by_cases hb:l.drop i=[]
   ·rw[show l.take i=l from by have:=List.take_append_drop i l;rw[hb,List.append_nil] at this;exact this];exact Nat.le_refl _
   ·have:=pre _ _ ha hb
    rw[List.take_append_drop] at this
    rw[this,List.length_append];omega
 have step:∀i x,l[i]?=some x→aM (l.take (i+1))=(if 0<i then aM (l.take i)++[47] else aM (l.take i))++x:=by
  intro i x hx
  have e:l.take (i+1)=l.take i++[x]:=by rw[List.take_add_one,hx];rfl
  rw[e]
  cases i with
  | zero=>rfl
  | succ i =>
    rw[if_pos (by omega),pre _ _ (by have:=aH hx;intro q;have:=congrArg List.length q;rw[List.length_take] at this;simp only[List.length_nil] at this;omega) (by simp)]
    simp[aM]
 have key:=ez (f:=kH (l,())) (r:=((aM l,((l.length:Int),())),())) l.length (fun i=>((aM (l.take i),((i:Int),())),())) (fun i hi=>by
  obtain⟨x,hxx⟩:∃x,l[i]?=some x:=⟨_,List.getElem?_eq_getElem hi⟩
  have hs:=step i x hxx
  have hb:=mono (i+1)
  rw[hs] at hb
  unfold kH
  dsimp only
  rw[au hi,ag]
  by_cases h0:0<i
  ·rw[if_pos h0] at hs hb
   rw[List.length_append,List.length_append] at hb
   simp only[List.length_cons,List.length_nil] at hb
   rw[aT (by omega),ag,cM (by simp only[List.length_cons,List.length_nil];omega),ag,aa,az hxx,aa]
   dsimp only
   rw[cM (by simp only[Cv,List.length_append,List.length_cons,List.length_nil];omega),ag,aZ (by omega),hs]
   rfl
  ·rw[if_neg h0] at hs hb
   rw[List.length_append] at hb
   rw[aJ (by omega),af,aa,az hxx,aa]
   dsimp only
   rw[cM (by omega),ag,aZ (by omega),hs]
   rfl) (by
  unfold kH
  dsimp only
  rw[aE,af,List.take_length]
  rfl)
 have key':Loop (kH (l,())) ((([]:List UInt8),((0:Int),())),())=some ((aM l,((l.length:Int),())),()):=key
 rw[key',aa]
def yS(s:List UInt8):Bool:=decide (s≠[46]∧s≠[46,46]∧1≤s.length∧s.length≤32∧0∉s)
theorem KQ(s:List UInt8)(hs:s.length≤1048576):pZ (s,())=some (yS s&&decide (47∉s),()):=by
 unfold pZ
 have key:=uh (f:=iI (s,())) s (fun(_:Unit) i=>((false,((i:Int),())),()))
  (fun i _ x=>some (if x=0∨x=47 then .inr (1,((false,((i:Int),())),())) else .inl ())) (fun i _=>(0,((false,((i:Int),())),()))) (fun _ _=>True)
  (fun u i x hx hi _=>by
   unfold iI
   dsimp only
   rw[au hi,ag,az hx,aa,acq]
   by_cases h0:x=0
   ·rw[decide_eq_true h0,aK,af,aa,ag,if_pos (.inl h0)];rfl
   ·rw[decide_eq_false h0,aF,ag,aa,Xc,aa]
    by_cases h1:x=47
    ·rw[decide_eq_true h1,ag,if_pos (.inr h1)];rfl
    ·rw[decide_eq_false h1,af,if_neg (by simp[h0,h1]),aZ (by omega)];rfl)
  (fun _ _ _ _ _ _ _=>trivial)
  (fun u _=>by
   unfold iI
   dsimp only
   rw[aE,af])
  (fun _ _ _ _ _ h=>by cases h) () trivial
 have run:∀(r:List UInt8) (i:Nat),∃q,uN (fun i (_:Unit) x=>some (if x=0∨x=47 then Sum.inr (1,((false,((i:Int),())),())) else Sum.inl ())) (fun i _=>((0:Nat),((false,((i:Int),())),()))) r i ()=some q ∧
   q.1=(if 0∉r∧47∉r then 0 else 1)∧q.2.1.1=false:=by
  intro r
  induction r with
  | nil=>intro i;exact⟨_,rfl,by simp,rfl⟩
  | cons x r ih =>
    intro i
    unfold uN
    by_cases h:x=0∨x=47
    ·simp only[if_pos h]
     refine⟨_,rfl,?_,rfl⟩
     rw[if_neg]
     rcases h with h|h<;>simp[h]
    ·simp only[if_neg h]
     obtain⟨q,h1,h2,h3⟩:=ih (i+1)
     refine⟨q,h1,?_,h3⟩
     rw[h2]
     simp only[not_or] at h
     simp only[List.mem_cons,not_or]
     have h1':¬(0=x):=fun e=>h.1 e.symm
     have h2':¬(47=x):=fun e=>h.2 e.symm
     simp[h1',h2']
 obtain⟨q,h1,h2,h3⟩:=run s 0
 have key':Loop (iI (s,())) ((false,((0:Int),())),())=some q:=key.trans h1
 rw[key',aa]
 have el:cO 1 (len s)=decide (1≤s.length):=by unfold cO len;apply decide_eq_decide.2;omega
 have eh:cO (len s) 32=decide (s.length≤32):=HF 32 s
 rw[el,eh,h2,h3]
 unfold yS
 by_cases a:0∉s∧47∉s
 ·rw[if_pos a,cG,ag]
  by_cases c:1≤s.length
  ·by_cases d:s.length≤32
   ·by_cases e:s=[46]
    ·simp[e,aj,cc,nt]
    ·by_cases f:s=[46,46]
     ·simp[f,aj,cc,nt]
     ·simp[a,c,d,e,f,aj,cc,nt]
   ·simp[d,c,aj]
  ·simp[c,aj]
 ·rw[if_neg a,jc,af]
  congr 2
  by_cases b:0∈s
  ·simp[b]
  ·have:47∈s:=by
    have:=a
    simp only[not_and,Decidable.not_not] at this
    exact this b
   simp[this]
theorem L4(p:List UInt8)(hp:p.length≤1048576):ur (p,())=some ((parts p).all yS&&decide ((parts p).length≤8)&&decide (p.length≤96),()):=by
 unfold ur
 dsimp only
 rw[gi p hp,aa]
 have hm:=Fj p
 have hn:=jU p
 generalize parts p=l at hm hn
 have key:=uh (f:=nP (l,())) l (fun(_:Unit) i=>((false,((i:Int),())),()))
  (fun i _ x=>some (if yS x=false then .inr (1,((false,((i:Int),())),())) else .inl ())) (fun i _=>(0,((false,((i:Int),())),()))) (fun _ _=>True)
  (fun u i x hx hi _=>by
   unfold nP
   dsimp only
   have hx':=hm x (List.mem_of_getElem? hx)
   rw[au hi,ag,az hx,aa,KQ x (by omega),aa]
   dsimp only
   rw[decide_eq_true hx'.1,Bool.and_true]
   cases h:yS x with
   | true=>rw[aK,af,if_neg (by simp),aZ (by omega)];rfl
   | false=>rw[aF,ag,if_pos rfl];rfl)
  (fun _ _ _ _ _ _ _=>trivial)
  (fun u _=>by
   unfold nP
   dsimp only
   rw[aE,af])
  (fun _ _ _ _ _ h=>by cases h) () trivial
 have run:∀(r:List (List UInt8)) (i:Nat),∃q,uN (fun i (_:Unit) x=>some (if yS x=false then Sum.inr (1,((false,((i:Int),())),())) else Sum.inl ())) (fun i _=>((0:Nat),((false,((i:Int),())),()))) r i ()=some q ∧
   q.1=(if r.all yS=true then 0 else 1)∧q.2.1.1=false:=by
  intro r
  induction r with
  | nil=>intro i;exact⟨_,rfl,rfl,rfl⟩
  | cons x r ih =>
    intro i
    unfold uN
    cases h:yS x with
    | false=>exact⟨_,rfl,by simp[h],rfl⟩
    | true =>
      obtain⟨q,h1,h2,h3⟩:=ih (i+1)
      exact⟨q,h1,by rw[h2];simp[h],h3⟩
 obtain⟨q,h1,h2,h3⟩:=run l 0
 have key':Loop (nP (l,())) ((false,((0:Int),())),())=some q:=key.trans h1
 rw[key',aa,h2,h3]
 have e8:cO (len l) 8=decide (l.length≤8):=HF 8 l
 have e96:cO (len p) 96=decide (p.length≤96):=HF 96 p
 rw[e8,e96]
 cases h:l.all yS with
 | true =>
   rw[if_pos rfl,cG,ag]
   by_cases a:l.length≤8<;>simp[a,aj]
 | false=>rw[if_neg (by simp),jc,af];simp
def yJ(x:List UInt8):Bool:=decide (x≠[]∧x≠[46])
def names(s:List UInt8):List (List UInt8):=(parts s).filter yJ
def tr(s:List UInt8):Bool:=(names s).all yS&&decide (s.head?≠some 47)&&decide ((names s).length≤8)&&decide ((aM (names s)).length≤96)
def CB(s:List UInt8):List UInt8×Int:=if tr s then(aM (names s),0) else([],2)
theorem AN(s:List UInt8):∀x∈names s,47∉x∧x≠[]∧x.length≤s.length:=by
 intro x hx
 obtain⟨h1,h2⟩:=List.mem_filter.1 hx
 obtain⟨h3,h4⟩:=Fj s x h1
 simp only[yJ,decide_eq_true_eq] at h2
 exact⟨h3,h2.1,h4⟩
theorem ND(s:List UInt8):(names s).length≤s.length+1:=Nat.le_trans (List.length_filter_le _ _) (jU s)
theorem PO(s:List UInt8):parts (aM (names s))=names s:=mj _ fun x hx=>⟨(AN s x hx).1,(AN s x hx).2.1⟩
theorem CC(s:List UInt8):(aM (names s)).length≤s.length:=by
 have gen:∀(l:List (List UInt8)),(aM (l.filter yJ)).length≤(aM l).length:=by
  intro l
  induction l with
  | nil=>simp[aM]
  | cons x r ih =>
    by_cases hk:yJ x=true
    ·rw[List.filter_cons_of_pos hk]
     cases hr:r.filter yJ with
     | nil =>
       cases r with
       | nil=>exact Nat.le_refl _
       | cons y r=>simp only[aM,List.length_append,List.length_cons];omega
     | cons y q =>
       rw[hr] at ih
       cases r with
       | nil=>simp at hr
       | cons z r=>simp only[aM,List.length_append,List.length_cons] at ih⊢;omega
    ·rw[List.filter_cons_of_neg hk]
     cases r with
     | nil=>simp[aM]
     | cons z r=>rw[aM];simp only[List.length_append,List.length_cons];omega
 have:=gen (parts s)
 rw[fG] at this
 exact this
theorem NF(s:List UInt8)(hs:s.length≤4096):rj (s,())=some ((CB s).1,((CB s).2,())):=by
 unfold rj
 dsimp only
 rw[gi s (by omega),aa]
 have hm:=Fj s
 have hn:=jU s
 have key:=uh (f:=jv (parts s,())) (parts s) (fun(o:List (List UInt8)) i=>(((),((i:Int),())),(o,())))
  (fun i o x=>some (.inl (if yJ x=true then o++[x] else o))) (fun i o=>(((),((i:Int),())),(o,()))) (fun i o=>o.length≤i)
  (fun o i x hx hi hI=>by
   unfold jv
   dsimp only
   rw[au hi,ag,az hx,aa,aa]
   have hk:yJ x=(nt (cc x [])&&nt (cc x [46])):=by simp[yJ,cc,nt]
   by_cases a:x=[]
   ·rw[fE a,aK,af,aa,af,aa,aZ (by omega),if_neg (by rw[hk,fE a];simp[nt])];rfl
   ·by_cases b:x=[46]
    ·rw[cu a,aF,ag,fE b,aK,aa,af,aa,aZ (by omega),if_neg (by rw[hk,fE b];simp[nt])];rfl
    ·rw[cu a,aF,ag,cu b,aF,aa,ag,aa,cM (by simp only[List.length_cons,List.length_nil];omega),ag,aa,aZ (by omega),if_pos (by rw[hk,cu a,cu b];rfl)];rfl)
  (fun o i x o' hx hI hq=>by
   obtain rfl:=Sum.inl.inj (Option.some.inj hq)
   by_cases a:yJ x=true
   ·rw[if_pos a];simp only[List.length_append,List.length_cons,List.length_nil];omega
   ·rw[if_neg a];omega)
  (fun o _=>by
   unfold jv
   dsimp only
   rw[aE,af];rfl)
  (fun _ _ _ _ _ h=>by cases h) [] (Nat.le_refl _)
 have run:∀(r:List (List UInt8)) (i:Nat) (o:List (List UInt8)),∃j,uN (fun i (o:List (List UInt8)) x=>some (Sum.inl (if yJ x=true then o++[x] else o))) (fun i o=>(((),((i:Int),())),(o,()))) r i o=some (((),(j,())),(o++r.filter yJ,())):=by
  intro r
  induction r with
  | nil=>intro i o;exact⟨(i:Int),by simp[uN]⟩
  | cons x r ih =>
    intro i o
    unfold uN
    by_cases hk:yJ x=true
    ·simp only[if_pos hk]
     obtain⟨j,h⟩:=ih (i+1) (o++[x])
     exact⟨j,by rw[h,List.filter_cons_of_pos hk];simp⟩
    ·simp only[if_neg hk]
     obtain⟨j,h⟩:=ih (i+1) o
     exact⟨j,by rw[h,List.filter_cons_of_neg hk]⟩
 obtain⟨j,h1⟩:=run (parts s) 0 []
 have key':Loop (jv (parts s,())) (((),((0:Int),())),(([]:List (List UInt8)),()))=some (((),(j,())),(names s,())):=by
  have:=key.trans h1
  rw[List.nil_append] at this
  exact this
 have hj:=CC s
 have hnn:=ND s
 rw[key',aa]
 dsimp only
 rw[zI _ (by omega) (by omega),aa]
 have e0:ah (aj (nt (cc s [])) (ah (idx s 0) fun y4=>some (bC (u8 y4) 47)) (some false))=fun(f:Bool→Option (List UInt8×Int×Unit))=>f (decide (s.head?=some 47)):=by
  funext f
  cases s with
  | nil=>rfl
  | cons b r =>
    rw[cu (by simp),aF,ag,show idx (b::r) 0=some b from rfl,aa,Xc,aa]
    congr 1
    simp
 rw[e0]
 dsimp only
 rw[L4 _ (by omega),aa,PO]
 unfold CB tr
 dsimp only
 by_cases a:s.head?=some 47
 ·simp[a,aj,nt,ah]
 ·cases ha:(names s).all yS with
  | false=>simp[a,aj,nt,ah]
  | true =>
    by_cases b:(names s).length≤8
    ·by_cases c:(aM (names s)).length≤96<;>simp[a,b,c,aj,nt,ah]
    ·simp[a,b,aj,nt,ah]
end Go.Ge
namespace Go.Ge
set_option linter.unusedSectionVars false
variable [Lp]
set_option linter.unusedVariables false
set_option linter.unusedSimpArgs false
def Jl(p:List UInt8):Nat→Option Nat
 | 0=>none
 | n+1=>if p[n]?=some 47 then some n else Jl p n
theorem Sz:∀{p:List UInt8} {n k:Nat},Jl p n=some k→k<n∧p[k]?=some 47∧∀j,k<j→j<n→p[j]?≠some 47:=by
 intro p n
 induction n with
 | zero=>intro k h;cases h
 | succ n ih =>
   intro k h
   rw[Jl] at h
   split at h
   ·rename_i hp
    obtain rfl:=Option.some.inj h
    exact⟨Nat.lt_succ_self _,hp,fun j h1 h2=>by omega⟩
   ·rename_i hp
    obtain⟨h1,h2,h3⟩:=ih h
    refine⟨by omega,h2,fun j h4 h5=>?_⟩
    by_cases e:j=n
    ·rw[e];exact hp
    ·exact h3 j h4 (by omega)
theorem SA:∀{p:List UInt8} {n:Nat},Jl p n=none→∀j,j<n→p[j]?≠some 47:=by
 intro p n
 induction n with
 | zero=>intro _ j h;omega
 | succ n ih =>
   intro h j hj
   rw[Jl] at h
   split at h
   ·cases h
   ·rename_i hp
    by_cases e:j=n
    ·rw[e];exact hp
    ·exact ih h j (by omega)
def bD(p:List UInt8):List UInt8×List UInt8:=match Jl p p.length with|some k=>(p.take k,p.drop (k+1))|none=>([],p)
theorem si(p:List UInt8):(47∉p∧bD p=([],p))∨∃a b,p=a++47::b∧47∉b∧bD p=(a,b):=by
 unfold bD
 cases h:Jl p p.length with
 | none =>
   refine .inl ⟨fun hm=>?_,rfl⟩
   obtain⟨j,hj,e⟩:=List.getElem_of_mem hm
   exact SA h j hj (by rw[List.getElem?_eq_getElem hj,e])
 | some k =>
   obtain⟨h1,h2,h3⟩:=Sz h
   refine .inr ⟨p.take k,p.drop (k+1),?_,fun hm=>?_,rfl⟩
   ·obtain⟨hk,e⟩:=List.getElem?_eq_some_iff.1 h2
    rw[←e,←List.drop_eq_getElem_cons hk,List.take_append_drop]
   ·obtain⟨j,hj,e⟩:=List.getElem_of_mem hm
    rw[List.length_drop] at hj
    rw[List.getElem_drop] at e
    exact h3 (k+1+j) (by omega) (by omega) (by rw[List.getElem?_eq_getElem (by omega),e])
theorem zJ(a b:List UInt8)(hb:47∉b):cv (a++47::b)=cv a++[b]:=by
 induction a with
 | nil =>
   have e:cv (47::b)=[]::cv b:=by rw[cv,if_pos rfl]
   rw[List.nil_append,e,mT b hb];rfl
 | cons c a ih =>
   rw[List.cons_append]
   by_cases h:c=47
   ·rw[cv,if_pos h,ih]
    conv=>rhs;rw[cv,if_pos h]
    rfl
   ·cases hs:cv a with
    | nil=>exact absurd hs (oZ a)
    | cons x t =>
      rw[hs] at ih
      rw[jM h hs,jM h (by rw[ih];rfl)]
      rfl
theorem tu(p:List UInt8)(hp:p.length≤4096):iV (p,())=some ((bD p).1,((bD p).2,())):=by
 unfold iV
 dsimp only
 rw[gi p (by omega),aa]
 by_cases h0:p=[]
 ·subst h0;rfl
 have hpp:parts p=cv p:=by unfold parts;rw[if_neg h0]
 rcases si p with ⟨h1,h2⟩|⟨a,b,rfl,h1,h2⟩
 ·rw[h2,hpp,mT p h1]
  dsimp only
  have e1:mN (sub [p] 0 (minus (dO .i64 (len [p]) 1) 0),())=some ([],()):=by
   have e:sub [p] 0 (minus (dO .i64 (len [p]) 1) 0)=[]:=rfl
   rw[e]
   exact zI [] (by simp) (by simp[aM])
  rw[show bC (len [p]) 0=false from rfl,af,show inside 0 (dO .i64 (len [p]) 1) (len [p])=true from rfl,ag,e1,aa]
  rfl
 ·rw[h2,hpp,zJ a b h1]
  dsimp only
  have hl:=BC a
  rw[List.length_append] at hp
  simp only[List.length_cons] at hp
  have e1:dO .i64 (len (cv a++[b])) 1=(((cv a).length:Nat):Int):=by
   rw[bN,List.length_append,fZ (by simp only[List.length_cons,List.length_nil];omega) (by simp only[List.length_cons,List.length_nil];omega)]
   simp only[List.length_cons,List.length_nil];omega
  rw[e1,aN (by rw[bN,List.length_append];simp only[List.length_cons,List.length_nil];omega),af,bB (by omega) (by omega) (by rw[bN,List.length_append];omega),ag,jl,List.take_left,
   zI _ (by omega) (by rw[tq];omega),tq,aa,uZ]
  simp[ah]
def sj(d n:List UInt8):List UInt8:=if d=[]∨n=[] then d++n else d++47::n
theorem xU(d n:List UInt8)(hd:d.length≤1048576)(hn:n.length≤1048576):mO (d,(n,()))=some (sj d n,()):=by
 unfold mO sj
 dsimp only
 by_cases a:d=[]
 ·rw[fE a,ag,if_pos (.inl a),a];rfl
 ·rw[cu a,af]
  by_cases b:n=[]
  ·rw[fE b,ag,if_pos (.inr b),b,List.append_nil]
  ·rw[cu b,af,cM (by simp only[List.length_cons,List.length_nil];omega),ag,cM (by simp only[Cv,List.length_append,List.length_cons,List.length_nil];omega),ag,if_neg (by simp[a,b])]
   simp[app]
def cC(x y:List (List UInt8)):Bool:=decide (y.length<x.length∧x.take y.length=y)
theorem UQ{α:Type}[DecidableEq α](Q:Nat→Nat→Nat×(Bool×Int×Unit)×Unit)(hQ:∀i j,(Q i j).1=j∧(Q i j).2.1.1=false):∀(r:List (α×α)) (i:Nat),∃q,uN (fun i (_:Unit) p=>some (if p.1=p.2 then Sum.inl () else Sum.inr (Q i 1))) (fun i _=>Q i 0) r i ()=some q ∧
  q.1=(if r.all (fun p=>decide (p.1=p.2))=true then 0 else 1)∧q.2.1.1=false:=by
 intro r
 induction r with
 | nil=>intro i;exact⟨_,rfl,(hQ _ _).1,(hQ _ _).2⟩
 | cons p r ih =>
   intro i
   unfold uN
   by_cases h:p.1=p.2
   ·simp only[if_pos h]
    obtain⟨q,h1,h2,h3⟩:=ih (i+1)
    exact⟨q,h1,by rw[h2,List.all_cons,decide_eq_true h,Bool.true_and],h3⟩
   ·simp only[if_neg h]
    exact⟨_,rfl,by rw[(hQ _ _).1,List.all_cons,decide_eq_false h,Bool.false_and,if_neg (by simp)],(hQ _ _).2⟩
theorem NG(p d:List UInt8)(hp:p.length≤4096)(hd:d.length≤4096):rq (p,(d,()))=some (cC (parts p) (parts d),()):=by
 unfold rq cC
 dsimp only
 have h1:=jU p
 have h2:=jU d
 rw[gi p (by omega),aa,gi d (by omega),aa]
 dsimp only
 rw[I4]
 generalize parts p=x at h1
 generalize parts d=y at h2
 by_cases h:y.length<x.length
 ·rw[decide_eq_false (by omega),af]
  have e:(x.zip y).length=y.length:=by rw[List.length_zip];omega
  have key:=uh (f:=jw (x,()) (y,())) (x.zip y) (fun(_:Unit) i=>((false,((i:Int),())),()))
   (fun i _ p=>some (if p.1=p.2 then .inl () else .inr (1,((false,((i:Int),())),())))) (fun i _=>(0,((false,((i:Int),())),()))) (fun _ _=>True)
   (fun u i p hp hi _=>by
    obtain⟨h1,h2⟩:=aax hp
    have hlx:=aH h1
    unfold jw
    dsimp only
    rw[au (aH h1),au (aH h2),ag,ag,az h1,aa,az h2,aa]
    by_cases e:p.1=p.2
    ·rw[fE e,aK,af,aZ (by omega),if_pos e];rfl
    ·rw[cu e,aF,ag,if_neg e];rfl)
   (fun _ _ _ _ _ _ _=>trivial)
   (fun u _=>by
    unfold jw
    dsimp only
    rw[e,aE,af,af])
   (fun _ _ _ _ _ h=>by cases h) () trivial
  obtain⟨q,k1,k2,k3⟩:=UQ (fun i j=>(j,((false,((i:Int),())),()))) (fun _ _=>⟨rfl,rfl⟩) (x.zip y) 0
  have key':Loop (jw (x,()) (y,())) ((false,((0:Int),())),())=some q:=key.trans k1
  rw[key',aa,k2,k3,WJ,show min x.length y.length=y.length by omega,List.take_length]
  by_cases a:x.take y.length=y
  ·rw[decide_eq_true a,if_pos rfl,cG,ag];simp[h,a]
  ·rw[decide_eq_false a,if_neg (by simp),jc,af];simp[a]
 ·rw[decide_eq_true (by omega),ag]
  simp[h]
theorem zK(a b:List UInt8)(ha:a.length≤4096)(hb:b.length≤4096):kI (a,(b,()))=some (cmpL (parts a) (parts b),()):=by
 unfold kI
 dsimp only
 have h1:=jU a
 have h2:=jU b
 rw[gi a (by omega),aa,gi b (by omega),aa]
 generalize parts a=x at h1
 generalize parts b=y at h2
 have run:∀(n i:Nat),x.length-i≤n→i≤x.length→i≤y.length→∃q,Loop (cT (x,()) (y,())) ((0,((i:Int),())),())=some q ∧
   (if q.1=0 then cmpL (x.drop i) (y.drop i)=(if x.length<y.length then -1 else if y.length<x.length then 1 else 0) else q.1=1∧q.2.1.1=cmpL (x.drop i) (y.drop i)):=by
  intro n
  induction n with
  | zero =>
    intro i hn hx hy
    obtain rfl:i=x.length:=by omega
    refine⟨(0,((0,((x.length:Int),())),())),?_,?_⟩
    ·rw[aV]
     have:cT (x,()) (y,()) ((0,((x.length:Int),())),())=some (.inr (0,((0,((x.length:Int),())),()))):=by
      unfold cT
      dsimp only
      rw[aE,af,af]
     rw[this];rfl
    ·rw[if_pos rfl,List.drop_length]
     by_cases h:x.length<y.length
     ·rw[if_pos h]
      cases hd:y.drop x.length with
      | nil=>have:=congrArg List.length hd;rw[List.length_drop] at this;simp only[List.length_nil] at this;omega
      | cons b r=>rfl
     ·rw[if_neg h,List.drop_of_length_le (by omega),if_neg (by omega)];rfl
  | succ n ih =>
    intro i hn hx hy
    by_cases hi:i<x.length
    ·obtain⟨u,hu⟩:∃u,x[i]?=some u:=⟨_,List.getElem?_eq_getElem hi⟩
     obtain⟨hu1,hu2⟩:=List.getElem?_eq_some_iff.1 hu
     have dx:x.drop i=u::x.drop (i+1):=by rw[List.drop_eq_getElem_cons hi,hu2]
     rw[aV]
     by_cases hj:i<y.length
     ·obtain⟨v,hv⟩:∃v,y[i]?=some v:=⟨_,List.getElem?_eq_getElem hj⟩
      obtain⟨hv1,Lv⟩:=List.getElem?_eq_some_iff.1 hv
      have dy:y.drop i=v::y.drop (i+1):=by rw[List.drop_eq_getElem_cons hj,Lv]
      have st:cT (x,()) (y,()) ((0,((i:Int),())),())=if u=v then some (.inl ((0,(((i+1:Nat):Int),())),())) else some (.inr (1,((if iD u v=true then -1 else 1,((i:Int),())),()))):=by
       unfold cT
       dsimp only
       rw[au hi,au hj,ag,ag,az hu,aa,az hv,aa,aa,aa,aaw]
       rcases HG u v with h|rfl|h
       ·rw[h,ag,if_neg (Fb h),if_pos rfl]
       ·rw[qI,af,af,if_pos rfl,aZ (by omega)]
       ·rw[wM h,af,h,ag,if_neg (fun e=>Fb h e.symm),if_neg (by simp)]
      rw[st,dx,dy,cmpL]
      by_cases e:u=v
      ·rw[if_pos e,if_pos e]
       exact ih (i+1) (by omega) (by omega) (by omega)
      ·rw[if_neg e,if_neg e]
       refine⟨_,rfl,?_⟩
       rw[if_neg (by simp)]
       exact⟨rfl,rfl⟩
     ·have st:cT (x,()) (y,()) ((0,((i:Int),())),())=some (.inr (0,((0,((i:Int),())),()))):=by
       unfold cT
       dsimp only
       rw[au hi,DJ,decide_eq_false hj,ag,af]
      rw[st]
      refine⟨_,rfl,?_⟩
      rw[if_pos rfl,dx,show y.drop i=[] from List.drop_of_length_le (by omega),if_neg (by omega),if_pos (by omega)]
      rfl
    ·exact ih i (by omega) hx hy
 obtain⟨q,k1,k2⟩:=run x.length 0 (by omega) (by omega) (by omega)
 have Z1:Loop (cT (x,()) (y,())) ((0,((0:Int),())),())=some q:=k1
 rw[Z1,aa]
 rw[List.drop_zero,List.drop_zero] at k2
 by_cases h:q.1=0
 ·rw[if_pos h] at k2
  rw[h,cG,ag,Pu,Pu,k2]
  by_cases l:x.length<y.length
  ·rw[decide_eq_true l,ag,if_pos l]
  ·rw[decide_eq_false l,af,if_neg l]
   by_cases m:y.length<x.length
   ·rw[decide_eq_true m,ag,if_pos m]
   ·rw[decide_eq_false m,af,if_neg m]
 ·rw[if_neg h] at k2
  rw[k2.1,jc,af,k2.2]
end Go.Ge
namespace Go.Ge
set_option linter.unusedSectionVars false
variable [Lp]
set_option linter.unusedVariables false
set_option linter.unusedSimpArgs false
theorem PR(s p:List UInt8):dw (s,(p,()))=some (decide (s.take p.length=p),()):=by
 unfold dw
 dsimp only
 rw[I4]
 by_cases h:p.length≤s.length
 ·rw[decide_eq_true h,ag,show inside 0 (len p) (len s)=true from bB (by decide) (by rw[bN];omega) (by rw[bN,bN];omega),ag,LR,aa]
  rfl
 ·rw[decide_eq_false h,af,aa,decide_eq_false]
  intro e
  have:=congrArg List.length e
  rw[List.length_take] at this
  omega
theorem SB(s p:List UInt8):dY (s,(p,()))=some (decide (s.take p.length=p),()):=by
 unfold dY
 dsimp only
 rw[PR,aa]
theorem Jm(s p:List UInt8):mg (s,(p,()))=some (decide (s.take p.length=p),()):=by
 unfold mg
 dsimp only
 rw[I4]
 by_cases h:p.length≤s.length
 ·rw[decide_eq_true h,ag,show inside 0 (len p) (len s)=true from bB (by decide) (by rw[bN];omega) (by rw[bN,bN];omega),ag,LR,aa]
  rfl
 ·rw[decide_eq_false h,af,aa,decide_eq_false]
  intro e
  have:=congrArg List.length e
  rw[List.length_take] at this
  omega
def wh:List UInt8:=[46,119,104,46]
def mq(n:List UInt8):Int×List UInt8 :=
 if n.take 4=wh then(if n.drop 4=[46,119,104,46,46,111,112,113] then(2,[]) else if(n.drop 4).take 4=wh∨n.drop 4=[]∨n.drop 4=[46]∨n.drop 4=[46,46] then(3,[]) else(1,n.drop 4)) else(0,n)
theorem Gi(n:List UInt8):p4 (n,())=some ((mq n).1,((mq n).2,())):=by
 unfold p4 mq
 dsimp only
 rw[Jm,Jm]
 by_cases h:n.take 4=wh
 ·have e:n=wh++n.drop 4:=by rw[←h,List.take_append_drop]
  rw[if_pos h]
  generalize hr:n.drop 4=r at e
  by_cases h1:r=[46,119,104,46,46,111,112,113]
  ·rw[if_pos h1,fE (by rw[e,h1];rfl),ag]
  ·rw[if_neg h1,cu (by rw[e];intro q;exact h1 (by simpa [wh] using q)),af,aa]
   dsimp only
   have a1:decide (n.take ([46,119,104,46,46,119,104,46]:List UInt8).length=[46,119,104,46,46,119,104,46])=decide (r.take 4=wh):=by
    rw[e]
    apply decide_eq_decide.2
    simp[wh]
   have a2:cc n [46,119,104,46]=decide (r=[]):=by
    rw[e]
    unfold cc
    apply decide_eq_decide.2
    simp[wh]
   have a3:cc n [46,119,104,46,46]=decide (r=[46]):=by
    rw[e]
    unfold cc
    apply decide_eq_decide.2
    simp[wh]
   have a4:cc n [46,119,104,46,46,46]=decide (r=[46,46]):=by
    rw[e]
    unfold cc
    apply decide_eq_decide.2
    simp[wh]
   have a5:decide (n.take ([46,119,104,46]:List UInt8).length=[46,119,104,46])=true:=decide_eq_true h
   rw[a1,a2,a3,a4,a5]
   have hs:aj (aj (nt (aj (nt (aj (nt (decide (r.take 4=wh))) (decide (r=[])) true)) (decide (r=[46])) true)) (decide (r=[46,46])) true)=fun(x y:Option (Int×List UInt8×Unit))=>if r.take 4=wh∨r=[]∨r=[46]∨r=[46,46] then x else y:=by
    funext x y
    by_cases b1:r.take 4=wh
    ·rw[if_pos (.inl b1)];simp[b1,aj,nt]
    ·by_cases b2:r=[]
     ·rw[if_pos (.inr (.inl b2))];simp[b2,aj,nt]
     ·by_cases b3:r=[46]
      ·rw[if_pos (.inr (.inr (.inl b3)))];simp[b3,aj,nt]
      ·by_cases b4:r=[46,46]
       ·rw[if_pos (.inr (.inr (.inr b4)))];simp[b4,aj,nt]
       ·rw[if_neg (by simp[b1,b2,b3,b4])];simp[b1,b2,b3,b4,aj,nt]
   rw[hs]
   dsimp only
   by_cases b:r.take 4=wh∨r=[]∨r=[46]∨r=[46,46]
   ·rw[if_pos b,if_pos b]
   ·rw[if_neg b,if_neg b,aa]
    dsimp only
    have hl:4≤n.length:=by rw[e];simp[wh]
    rw[ag,show inside 4 (len n) (len n)=true from bB (by decide) (by rw[bN];omega) (Int.le_refl _),ag,show sub n 4 (minus (len n) 4)=n.drop 4 from pV n 4 hl,hr]
 ·rw[if_neg h]
  have n1:n≠[46,119,104,46,46,119,104,46,46,111,112,113]:=fun q=>h (by rw[q];rfl)
  have n2:n≠[46,119,104,46]:=fun q=>h (by rw[q];rfl)
  have n3:n≠[46,119,104,46,46]:=fun q=>h (by rw[q];rfl)
  have n4:n≠[46,119,104,46,46,46]:=fun q=>h (by rw[q];rfl)
  have n5:¬n.take ([46,119,104,46,46,119,104,46]:List UInt8).length=[46,119,104,46,46,119,104,46]:=fun q=>h (by
   have:=congrArg (List.take 4) q
   rw[List.take_take] at this
   exact this)
  rw[cu n1,af,aa]
  dsimp only
  rw[decide_eq_false n5,cu n2,cu n3,cu n4]
  rw[show aj (aj (nt (aj (nt (aj (nt false) false true)) false true)) false true)=fun(x y:Option (Int×List UInt8×Unit))=>y from rfl]
  dsimp only
  rw[aa]
  dsimp only
  rw[decide_eq_false (by exact h),af]
theorem AO{a b:Bool}:aj a b false=(a&&b):=by cases a<;>rfl
theorem ve{s:List UInt8}(h:tr s=true):(names s).all yS=true∧(names s).length≤8∧(aM (names s)).length≤96:=by
 unfold tr at h
 simp only[Bool.and_eq_true,decide_eq_true_eq] at h
 exact⟨h.1.1.1,h.1.2,h.2⟩
theorem Jn(l:List (List UInt8))(a:List (List UInt8))(h:∀x∈a++l,47∉x∧x≠[]):l.foldl sj (aM a)=aM (a++l):=by
 induction l generalizing a with
 | nil=>simp
 | cons x r ih =>
   have hx:=h x (by simp)
   have e:sj (aM a) x=aM (a++[x]):=by
    unfold sj
    cases a with
    | nil=>rw[aM,if_pos (.inl rfl)];rfl
    | cons y q =>
      have hne:aM (y::q)≠[]:=by
       have:=(h y (by simp)).2
       cases q with
       | nil=>rw[aM];exact this
       | cons z q=>rw[aM];simp
      rw[if_neg (by simp[hne,hx.2])]
      have gen:∀(y:List UInt8) (q:List (List UInt8)),aM (y::q++[x])=aM (y::q)++47::x:=by
       intro y q
       induction q generalizing y with
       | nil=>rfl
       | cons z q ih2 =>
         rw[List.cons_append,List.cons_append,aM,←List.cons_append,ih2 z]
         rw[aM]
         simp
      exact(gen y q).symm
   rw[List.foldl_cons,e,ih (a++[x]) (by intro z hz;exact h z (by simpa using hz))]
   simp
theorem Gj{l:List (List UInt8)}(h:∀x∈l,47∉x∧x≠[])(hne:l≠[]):bD (aM l)=(aM l.dropLast,l.getLast hne):=by
 have hs:cv (aM l)=l:=D4 l hne fun x hx=>(h x hx).1
 rcases si (aM l) with ⟨h1,h2⟩|⟨a,b,h0,h1,h2⟩
 ·rw[mT _ h1] at hs
  rw[h2]
  generalize aM l=p at hs
  subst hs
  rfl
 ·rw[h2]
  rw[h0,zJ a b h1] at hs
  subst hs
  rw[List.dropLast_concat,List.getLast_concat,tq]
end Go.Ge
namespace Go.Ge
set_option linter.unusedSectionVars false
variable [Lp]
set_option linter.unusedVariables false
set_option maxRecDepth 100000
abbrev aL:=(Sb×Sb×Sb×Unit)
abbrev bp:=(Sb×(List Sb)×Sb×Sb×(List aL)×Unit)
abbrev iW:=((List (Sb×(List Sb)×Sb×Sb×Sb×(List aL)×Unit))×(List bp)×(List (Sb×Sb×(List Sb)×Sb×Int×Int×Bool×Unit))×(List Sb)×(List (Sb×Int×Unit))×Unit)
abbrev cL:=(Sb×(List Sb)×Unit)
abbrev bV:=(Int×Int×Unit)
abbrev CD:=(Sb×(List Sb)×Sb×Sb×Sb×(List aL)×Unit)
abbrev SC:=(Sb×Sb×(List Sb)×Sb×Int×Int×Bool×Unit)
abbrev nC:=(Bool×Int×Unit)
abbrev e7:=(Nat×bV×Unit×Sb×Unit)
abbrev e9:=(bV×Unit×Sb×Unit)
abbrev fN:=((Unit×Int×Unit)×(List Sb)×Unit)
abbrev fO:=(Nat×bV×Sb×Unit)
abbrev lB:=(Sb×Int×Int×Unit)
abbrev D5:=((List UInt8)×((List (List UInt8))×((List UInt8)×((List UInt8)×((List ((List UInt8)×((List UInt8)×((List UInt8)×Unit))))×Unit)))))
abbrev fP:=(bV×Sb×Unit)
abbrev ou:=(Nat×nC×Unit)
abbrev ac9:=((Int×Unit)×Unit×(List cL)×Unit)
abbrev ow:=(Int×Sb×Int×Sb×Unit)
abbrev je:=(Nat×bV×Unit×aL×Unit)
abbrev ada:=(Nat×bV×(List Sb)×Unit)
abbrev adb:=(Int×(List SC)×(List bp)×(List CD)×Unit)
abbrev vf:=((Nat×(Unit×Int×Unit)×(List Sb)×Unit))
abbrev jf:=(bV×Unit×aL×Unit)
abbrev ade:=(bV×(List Sb)×Unit)
abbrev oz:=(nC×Unit)
abbrev adf:=((Nat×(Int×Unit)×Unit×(List cL)×Unit))
abbrev vg:=(Nat×bV×Unit×bp×Unit)
abbrev D6:=((List UInt8)×((List UInt8)×((List UInt8)×Unit)))
abbrev vh:=(Unit×Int×Unit)
noncomputable def aX(l:List D6)(x:(Int×((List D6)×Unit))):Option (List D6):=Nh l x.1 x.2.1
noncomputable def bh(l:List D5)(x:(Int×(Int×Unit))):Option (List D5):=Sd l x.1 x.2.1
noncomputable def b6(l:List D6)(x:(Int×(Int×Unit))):Option (List D6):=Sd l x.1 x.2.1
noncomputable def bJ(l:List D5)(x:(Int×((List D5)×Unit))):Option (List D5):=Nh l x.1 x.2.1
noncomputable def cU(x:aL×Unit):Option (Sb×Unit) :=
 some (x.1.1,())
noncomputable def cI(x:(List aL)×Unit):Option ((List aL)×Unit) :=
 bif fits (len x.1) then some (x.1,()) else none
noncomputable def Bc(x:(List aL)×Sb×Sb×Unit)(y2:bV×Unit×Sb×Unit):Option (e9⊕e7) :=
 aj (aY y2.1.2.1 (@len aL x.1))
 (ah (@idx aL x.1 y2.1.2.1) (fun(y3:Sb×Sb×Sb×Unit)=>ah (cU (y3,())) (fun(y4:Sb×Unit)=>aj (cc y4.1 y2.2.2.1)
 (some (Sum.inr ((1:Nat),((y2.1.2.1,(y2.1.2.1,())),((),(y2.2.2.1,())))):(e9)⊕(e7)))
 (some (Sum.inl ((y2.1.1,(aI IntKind.i64 y2.1.2.1 (1:Int),())),((),(y2.2.2.1,()))):(e9)⊕(e7))))))
 (some (Sum.inr ((0:Nat),((y2.1.1,(y2.1.2.1,())),((),(y2.2.2.1,())))):(e9)⊕(e7)))
noncomputable def Bd(x:(List aL)×Sb×Sb×Unit)(y5:bV×Unit×Sb×Unit):Option (e9⊕e7) :=
 aj (aY y5.1.2.1 (@len aL x.1))
 (ah (@idx aL x.1 y5.1.2.1) (fun(y6:Sb×Sb×Sb×Unit)=>ah (cU (y6,())) (fun(y7:Sb×Unit)=>aj (cc y7.1 y5.2.2.1)
 (some (Sum.inr ((1:Nat),((y5.1.2.1,(y5.1.2.1,())),((),(y5.2.2.1,())))):(e9)⊕(e7)))
 (some (Sum.inl ((y5.1.1,(aI IntKind.i64 y5.1.2.1 (1:Int),())),((),(y5.2.2.1,()))):(e9)⊕(e7))))))
 (some (Sum.inr ((0:Nat),((y5.1.1,(y5.1.2.1,())),((),(y5.2.2.1,())))):(e9)⊕(e7)))
noncomputable def Be(y6:(Unit×Unit)×(List aL)×Unit)(y7:bV×Unit×aL×Unit):Option (jf⊕je) :=
 aj (aY y7.1.2.1 (@len aL y6.2.1))
 (aj (within y7.1.2.1 (@len aL y6.2.1))
 (ah (@idx aL y6.2.1 y7.1.2.1) (fun(y8:Sb×Sb×Sb×Unit)=>ah (cU (y8,())) (fun(y9:Sb×Unit)=>ah (cU (y7.2.2.1,())) (fun(tf:Sb×Unit)=>aj (nt (iD y9.1 tf.1))
 (some (Sum.inr ((1:Nat),((y7.1.2.1,(y7.1.2.1,())),((),(y7.2.2.1,())))):(jf)⊕(je)))
 (some (Sum.inl ((y7.1.1,(aI IntKind.i64 y7.1.2.1 (1:Int),())),((),(y7.2.2.1,()))):(jf)⊕(je)))))))
 none)
 (some (Sum.inr ((0:Nat),((y7.1.1,(y7.1.2.1,())),((),(y7.2.2.1,())))):(jf)⊕(je)))
noncomputable def Bf(y6:(Unit×Unit)×(List aL)×Unit)(y7:bV×Unit×aL×Unit):Option (jf⊕je) :=
 aj (aY y7.1.2.1 (@len aL y6.2.1))
 (aj (within y7.1.2.1 (@len aL y6.2.1))
 (ah (@idx aL y6.2.1 y7.1.2.1) (fun(y8:Sb×Sb×Sb×Unit)=>ah (cU (y8,())) (fun(y9:Sb×Unit)=>ah (cU (y7.2.2.1,())) (fun(tf:Sb×Unit)=>aj (nt (iD y9.1 tf.1))
 (some (Sum.inr ((1:Nat),((y7.1.2.1,(y7.1.2.1,())),((),(y7.2.2.1,())))):(jf)⊕(je)))
 (some (Sum.inl ((y7.1.1,(aI IntKind.i64 y7.1.2.1 (1:Int),())),((),(y7.2.2.1,()))):(jf)⊕(je)))))))
 none)
 (some (Sum.inr ((0:Nat),((y7.1.1,(y7.1.2.1,())),((),(y7.2.2.1,())))):(jf)⊕(je)))
noncomputable def Bg(x:(List aL)×Sb×Sb×Unit)(y5:bV×Unit×Sb×Unit):Option (e9⊕e7) :=
 aj (aY y5.1.2.1 (@len aL x.1))
 (ah (@idx aL x.1 y5.1.2.1) (fun(y6:Sb×Sb×Sb×Unit)=>ah (cU (y6,())) (fun(y7:Sb×Unit)=>aj (cc y7.1 y5.2.2.1)
 (some (Sum.inr ((1:Nat),((y5.1.2.1,(y5.1.2.1,())),((),(y5.2.2.1,())))):(e9)⊕(e7)))
 (some (Sum.inl ((y5.1.1,(aI IntKind.i64 y5.1.2.1 (1:Int),())),((),(y5.2.2.1,()))):(e9)⊕(e7))))))
 (some (Sum.inr ((0:Nat),((y5.1.1,(y5.1.2.1,())),((),(y5.2.2.1,())))):(e9)⊕(e7)))
noncomputable def Bh(y6:(Unit×Unit)×(List aL)×Unit)(y7:bV×Unit×aL×Unit):Option (jf⊕je) :=
 aj (aY y7.1.2.1 (@len aL y6.2.1))
 (aj (within y7.1.2.1 (@len aL y6.2.1))
 (ah (@idx aL y6.2.1 y7.1.2.1) (fun(y8:Sb×Sb×Sb×Unit)=>ah (cU (y8,())) (fun(y9:Sb×Unit)=>ah (cU (y7.2.2.1,())) (fun(tf:Sb×Unit)=>aj (nt (iD y9.1 tf.1))
 (some (Sum.inr ((1:Nat),((y7.1.2.1,(y7.1.2.1,())),((),(y7.2.2.1,())))):(jf)⊕(je)))
 (some (Sum.inl ((y7.1.1,(aI IntKind.i64 y7.1.2.1 (1:Int),())),((),(y7.2.2.1,()))):(jf)⊕(je)))))))
 none)
 (some (Sum.inr ((0:Nat),((y7.1.1,(y7.1.2.1,())),((),(y7.2.2.1,())))):(jf)⊕(je)))
noncomputable def Bi(y6:(Unit×Unit)×(List aL)×Unit)(y7:bV×Unit×aL×Unit):Option (jf⊕je) :=
 aj (aY y7.1.2.1 (@len aL y6.2.1))
 (aj (within y7.1.2.1 (@len aL y6.2.1))
 (ah (@idx aL y6.2.1 y7.1.2.1) (fun(y8:Sb×Sb×Sb×Unit)=>ah (cU (y8,())) (fun(y9:Sb×Unit)=>ah (cU (y7.2.2.1,())) (fun(tf:Sb×Unit)=>aj (nt (iD y9.1 tf.1))
 (some (Sum.inr ((1:Nat),((y7.1.2.1,(y7.1.2.1,())),((),(y7.2.2.1,())))):(jf)⊕(je)))
 (some (Sum.inl ((y7.1.1,(aI IntKind.i64 y7.1.2.1 (1:Int),())),((),(y7.2.2.1,()))):(jf)⊕(je)))))))
 none)
 (some (Sum.inr ((0:Nat),((y7.1.1,(y7.1.2.1,())),((),(y7.2.2.1,())))):(jf)⊕(je)))
noncomputable def wV(x:(List aL)×Sb×Sb×Unit):Option ((List aL)×Int×Unit) :=
 ah (kJ (x.2.1,())) (fun(y1:Bool×Unit)=>aj (aj (nt (nt y1.1))
 (aY (64:Int) (@len UInt8 x.2.2.1))
 true)
 (some (([]:List aL),((1:Int),())))
 (ah (Loop (Bc x) (((0:Int),((0:Int),())),((),(x.2.1,())))) (fun(y2:Nat×bV×Unit×Sb×Unit)=>aj (fB y2.1 (0:Nat))
 (aj (aj (aY (-1:Int) (0:Int))
 (cO (4:Int) (@len aL x.1))
 false)
 (some (([]:List aL),((5:Int),())))
 (ah (zB (x.2.2.1,())) (fun(y3:Sb×Unit)=>ah (cU ((x.2.1,(y3.1,(x.2.2.1,()))),())) (fun(y4:Sb×Unit)=>aj (fits (@len aL x.1))
 (ah (Loop (Bd x) (((0:Int),((0:Int),())),((),(y4.1,())))) (fun(y5:Nat×bV×Unit×Sb×Unit)=>aj (fB y5.1 (0:Nat))
 (ah (aj (cO (0:Int) (-1:Int))
 (ah (b6 x.1 ((-1:Int),(aI IntKind.i64 (-1:Int) (1:Int),()))) (fun(y6:List aL)=>some (((),()),(y6,()))))
 (some (((),()),(x.1,())))) (fun(y6:(Unit×Unit)×(List aL)×Unit)=>ah (Loop (Be y6) (((0:Int),((0:Int),())),((),((x.2.1,(y3.1,(x.2.2.1,()))),())))) (fun(y7:Nat×bV×Unit×aL×Unit)=>aj (fB y7.1 (0:Nat))
 (ah (aX y6.2.1 (((aj (aY (-1:Int) (0:Int))
 ((@len aL y6.2.1,()),())
 (((-1:Int),()),())).1).1,(([y7.2.2.2.1]:List aL),()))) (fun(y8:List aL)=>some (y8,((0:Int),()))))
 (ah (aX y6.2.1 (((aj (aY y7.2.1.1 (0:Int))
 ((@len aL y6.2.1,()),())
 ((y7.2.1.1,()),())).1).1,(([y7.2.2.2.1]:List aL),()))) (fun(y8:List aL)=>some (y8,((0:Int),())))))))
 (ah (aj (cO (0:Int) y5.2.1.1)
 (ah (b6 x.1 (y5.2.1.1,(aI IntKind.i64 y5.2.1.1 (1:Int),()))) (fun(y6:List aL)=>some (((),()),(y6,()))))
 (some (((),()),(x.1,())))) (fun(y6:(Unit×Unit)×(List aL)×Unit)=>ah (Loop (Bf y6) (((0:Int),((0:Int),())),((),((x.2.1,(y3.1,(x.2.2.1,()))),())))) (fun(y7:Nat×bV×Unit×aL×Unit)=>aj (fB y7.1 (0:Nat))
 (ah (aX y6.2.1 (((aj (aY (-1:Int) (0:Int))
 ((@len aL y6.2.1,()),())
 (((-1:Int),()),())).1).1,(([y7.2.2.2.1]:List aL),()))) (fun(y8:List aL)=>some (y8,((0:Int),()))))
 (ah (aX y6.2.1 (((aj (aY y7.2.1.1 (0:Int))
 ((@len aL y6.2.1,()),())
 ((y7.2.1.1,()),())).1).1,(([y7.2.2.2.1]:List aL),()))) (fun(y8:List aL)=>some (y8,((0:Int),())))))))))
 none))))
 (aj (aj (aY y2.2.1.1 (0:Int))
 (cO (4:Int) (@len aL x.1))
 false)
 (some (([]:List aL),((5:Int),())))
 (ah (zB (x.2.2.1,())) (fun(y3:Sb×Unit)=>ah (cU ((x.2.1,(y3.1,(x.2.2.1,()))),())) (fun(y4:Sb×Unit)=>aj (fits (@len aL x.1))
 (ah (Loop (Bg x) (((0:Int),((0:Int),())),((),(y4.1,())))) (fun(y5:Nat×bV×Unit×Sb×Unit)=>aj (fB y5.1 (0:Nat))
 (ah (aj (cO (0:Int) (-1:Int))
 (ah (b6 x.1 ((-1:Int),(aI IntKind.i64 (-1:Int) (1:Int),()))) (fun(y6:List aL)=>some (((),()),(y6,()))))
 (some (((),()),(x.1,())))) (fun(y6:(Unit×Unit)×(List aL)×Unit)=>ah (Loop (Bh y6) (((0:Int),((0:Int),())),((),((x.2.1,(y3.1,(x.2.2.1,()))),())))) (fun(y7:Nat×bV×Unit×aL×Unit)=>aj (fB y7.1 (0:Nat))
 (ah (aX y6.2.1 (((aj (aY (-1:Int) (0:Int))
 ((@len aL y6.2.1,()),())
 (((-1:Int),()),())).1).1,(([y7.2.2.2.1]:List aL),()))) (fun(y8:List aL)=>some (y8,((0:Int),()))))
 (ah (aX y6.2.1 (((aj (aY y7.2.1.1 (0:Int))
 ((@len aL y6.2.1,()),())
 ((y7.2.1.1,()),())).1).1,(([y7.2.2.2.1]:List aL),()))) (fun(y8:List aL)=>some (y8,((0:Int),())))))))
 (ah (aj (cO (0:Int) y5.2.1.1)
 (ah (b6 x.1 (y5.2.1.1,(aI IntKind.i64 y5.2.1.1 (1:Int),()))) (fun(y6:List aL)=>some (((),()),(y6,()))))
 (some (((),()),(x.1,())))) (fun(y6:(Unit×Unit)×(List aL)×Unit)=>ah (Loop (Bi y6) (((0:Int),((0:Int),())),((),((x.2.1,(y3.1,(x.2.2.1,()))),())))) (fun(y7:Nat×bV×Unit×aL×Unit)=>aj (fB y7.1 (0:Nat))
 (ah (aX y6.2.1 (((aj (aY (-1:Int) (0:Int))
 ((@len aL y6.2.1,()),())
 (((-1:Int),()),())).1).1,(([y7.2.2.2.1]:List aL),()))) (fun(y8:List aL)=>some (y8,((0:Int),()))))
 (ah (aX y6.2.1 (((aj (aY y7.2.1.1 (0:Int))
 ((@len aL y6.2.1,()),())
 ((y7.2.1.1,()),())).1).1,(([y7.2.2.2.1]:List aL),()))) (fun(y8:List aL)=>some (y8,((0:Int),())))))))))
 none)))))))
noncomputable def Bj(x:(List aL)×Sb×Unit)(y1:bV×Unit×Sb×Unit):Option (e9⊕e7) :=
 aj (aY y1.1.2.1 (@len aL x.1))
 (ah (@idx aL x.1 y1.1.2.1) (fun(y2:Sb×Sb×Sb×Unit)=>ah (cU (y2,())) (fun(y3:Sb×Unit)=>aj (cc y3.1 y1.2.2.1)
 (some (Sum.inr ((1:Nat),((y1.1.2.1,(y1.1.2.1,())),((),(y1.2.2.1,())))):(e9)⊕(e7)))
 (some (Sum.inl ((y1.1.1,(aI IntKind.i64 y1.1.2.1 (1:Int),())),((),(y1.2.2.1,()))):(e9)⊕(e7))))))
 (some (Sum.inr ((0:Nat),((y1.1.1,(y1.1.2.1,())),((),(y1.2.2.1,())))):(e9)⊕(e7)))
noncomputable def wW(x:(List aL)×Sb×Unit):Option (Sb×Int×Unit) :=
 ah (Loop (Bj x) (((0:Int),((0:Int),())),((),(x.2.1,())))) (fun(y1:Nat×bV×Unit×Sb×Unit)=>aj (fB y1.1 (0:Nat))
 (aj (aY (-1:Int) (0:Int))
 (some (([]:List (UInt8)),((3:Int),())))
 (ah (@idx aL x.1 (-1:Int)) (fun(y2:Sb×Sb×Sb×Unit)=>some (y2.2.2.1,((0:Int),())))))
 (aj (aY y1.2.1.1 (0:Int))
 (some (([]:List (UInt8)),((3:Int),())))
 (ah (@idx aL x.1 y1.2.1.1) (fun(y2:Sb×Sb×Sb×Unit)=>some (y2.2.2.1,((0:Int),()))))))
noncomputable def gQ(x:Int×Unit):Option (ow×Unit) :=
 some ((x.1,(([]:List (UInt8)),((0:Int),(([]:List (UInt8)),())))),())
noncomputable def mU(x:(List cL)×Sb×Unit)(y1:bV×Sb×Unit):Option (fP⊕fO) :=
 aj (aY y1.1.2.1 (@len cL x.1))
 (ah (@idx cL x.1 y1.1.2.1) (fun(y2:Sb×(List Sb)×Unit)=>aj (cc y2.1 y1.2.1)
 (some (Sum.inr ((1:Nat),((y1.1.2.1,(y1.1.2.1,())),(y1.2.1,()))):(fP)⊕(fO)))
 (some (Sum.inl ((y1.1.1,(aI IntKind.i64 y1.1.2.1 (1:Int),())),(y1.2.1,())):(fP)⊕(fO)))))
 (some (Sum.inr ((0:Nat),((y1.1.1,(y1.1.2.1,())),(y1.2.1,()))):(fP)⊕(fO)))
noncomputable def gE(x:(List cL)×Sb×Unit)(y2:bV×Sb×Unit):Option (fP⊕fO) :=
 aj (aY y2.1.2.1 (@len cL x.1))
 (ah (@idx cL x.1 y2.1.2.1) (fun(y3:Sb×(List Sb)×Unit)=>ah (cl (y3.2.1,(y2.2.1,()))) (fun(y4:Bool×Unit)=>aj y4.1
 (some (Sum.inr ((1:Nat),((y2.1.2.1,(y2.1.2.1,())),(y2.2.1,()))):(fP)⊕(fO)))
 (some (Sum.inl ((y2.1.1,(aI IntKind.i64 y2.1.2.1 (1:Int),())),(y2.2.1,())):(fP)⊕(fO))))))
 (some (Sum.inr ((0:Nat),((y2.1.1,(y2.1.2.1,())),(y2.2.1,()))):(fP)⊕(fO)))
noncomputable def mV(x:(List cL)×Sb×Unit)(y2:Nat×bV×Sb×Unit)(y3:vh×(List Sb)×Unit):Option (fN⊕fN) :=
 @ep fN (aj (aY y3.1.2.1 (@len cL x.1))
 (ah (@idx cL x.1 y3.1.2.1) (fun(y4:Sb×(List Sb)×Unit)=>ah (dY (y4.1,(y2.2.2.1,()))) (fun(y5:Bool×Unit)=>ah (aj y5.1
 (aj (fits (plus (@len Sb y3.2.1) (@len Sb ([y4.1]:List Sb))))
 (some (((),()),(@app Sb y3.2.1 ([y4.1]:List Sb),())))
 none)
 (some (((),()),(y3.2.1,())))) (fun(y6:(Unit×Unit)×(List Sb)×Unit)=>some (Sum.inl (((),(aI IntKind.i64 y3.1.2.1 (1:Int),())),(y6.2.1,())):(fN)⊕vf)))))
 (some (Sum.inr ((0:Nat),(((),(y3.1.2.1,())),(y3.2.1,()))):(fN)⊕vf)))
noncomputable def Fk(x:(List cL)×Sb×Unit)(y2:Nat×bV×Sb×Unit)(y3:vh×(List Sb)×Unit):Option (fN⊕fN) :=
 @ep fN (aj (aY y3.1.2.1 (@len cL x.1))
 (ah (@idx cL x.1 y3.1.2.1) (fun(y4:Sb×(List Sb)×Unit)=>ah (dY (y4.1,(y2.2.2.1,()))) (fun(y5:Bool×Unit)=>ah (aj y5.1
 (aj (fits (plus (@len Sb y3.2.1) (@len Sb ([y4.1]:List Sb))))
 (some (((),()),(@app Sb y3.2.1 ([y4.1]:List Sb),())))
 none)
 (some (((),()),(y3.2.1,())))) (fun(y6:(Unit×Unit)×(List Sb)×Unit)=>some (Sum.inl (((),(aI IntKind.i64 y3.1.2.1 (1:Int),())),(y6.2.1,())):(fN)⊕vf)))))
 (some (Sum.inr ((0:Nat),(((),(y3.1.2.1,())),(y3.2.1,()))):(fN)⊕vf)))
noncomputable def Fl(x:(List cL)×Sb×Unit)(y2:bV×Sb×Unit):Option (fP⊕fO) :=
 aj (aY y2.1.2.1 (@len cL x.1))
 (ah (@idx cL x.1 y2.1.2.1) (fun(y3:Sb×(List Sb)×Unit)=>ah (cl (y3.2.1,(y2.2.1,()))) (fun(y4:Bool×Unit)=>aj y4.1
 (some (Sum.inr ((1:Nat),((y2.1.2.1,(y2.1.2.1,())),(y2.2.1,()))):(fP)⊕(fO)))
 (some (Sum.inl ((y2.1.1,(aI IntKind.i64 y2.1.2.1 (1:Int),())),(y2.2.1,())):(fP)⊕(fO))))))
 (some (Sum.inr ((0:Nat),((y2.1.1,(y2.1.2.1,())),(y2.2.1,()))):(fP)⊕(fO)))
noncomputable def Fm(x:(List cL)×Sb×Unit)(y2:Nat×bV×Sb×Unit)(y3:vh×(List Sb)×Unit):Option (fN⊕fN) :=
 @ep fN (aj (aY y3.1.2.1 (@len cL x.1))
 (ah (@idx cL x.1 y3.1.2.1) (fun(y4:Sb×(List Sb)×Unit)=>ah (dY (y4.1,(y2.2.2.1,()))) (fun(y5:Bool×Unit)=>ah (aj y5.1
 (aj (fits (plus (@len Sb y3.2.1) (@len Sb ([y4.1]:List Sb))))
 (some (((),()),(@app Sb y3.2.1 ([y4.1]:List Sb),())))
 none)
 (some (((),()),(y3.2.1,())))) (fun(y6:(Unit×Unit)×(List Sb)×Unit)=>some (Sum.inl (((),(aI IntKind.i64 y3.1.2.1 (1:Int),())),(y6.2.1,())):(fN)⊕vf)))))
 (some (Sum.inr ((0:Nat),(((),(y3.1.2.1,())),(y3.2.1,()))):(fN)⊕vf)))
noncomputable def Fo(x:(List cL)×Sb×Unit)(y2:Nat×bV×Sb×Unit)(y3:vh×(List Sb)×Unit):Option (fN⊕fN) :=
 @ep fN (aj (aY y3.1.2.1 (@len cL x.1))
 (ah (@idx cL x.1 y3.1.2.1) (fun(y4:Sb×(List Sb)×Unit)=>ah (dY (y4.1,(y2.2.2.1,()))) (fun(y5:Bool×Unit)=>ah (aj y5.1
 (aj (fits (plus (@len Sb y3.2.1) (@len Sb ([y4.1]:List Sb))))
 (some (((),()),(@app Sb y3.2.1 ([y4.1]:List Sb),())))
 none)
 (some (((),()),(y3.2.1,())))) (fun(y6:(Unit×Unit)×(List Sb)×Unit)=>some (Sum.inl (((),(aI IntKind.i64 y3.1.2.1 (1:Int),())),(y6.2.1,())):(fN)⊕vf)))))
 (some (Sum.inr ((0:Nat),(((),(y3.1.2.1,())),(y3.2.1,()))):(fN)⊕vf)))
noncomputable def nR(x:(List cL)×Sb×Unit):Option (Sb×Int×Unit) :=
 ah (Loop (mU x) (((0:Int),((0:Int),())),(x.2.1,()))) (fun(y1:Nat×bV×Sb×Unit)=>aj (fB y1.1 (0:Nat))
 (aj (cO (0:Int) (-1:Int))
 (some (x.2.1,((0:Int),())))
 (ah (Loop (gE x) (((0:Int),((0:Int),())),(x.2.1,()))) (fun(y2:Nat×bV×Sb×Unit)=>aj (fB y2.1 (0:Nat))
 (aj (cO (0:Int) (-1:Int))
 (ah (@idx cL x.1 (-1:Int)) (fun(y3:Sb×(List Sb)×Unit)=>some (y3.1,((0:Int),()))))
 (ah (Loop (mV x y2) (((),((0:Int),())),(([]:List Sb),()))) (fun(y3:vh×(List Sb)×Unit)=>aj (aj (nt (aj (nt (cc y2.2.2.1 ([]:List (UInt8))))
 (cO (6:Int) (@len UInt8 y2.2.2.1))
 true))
 (bC (@len Sb y3.2.1) (0:Int))
 true)
 (some (([]:List (UInt8)),((3:Int),())))
 (aj (aY (1:Int) (@len Sb y3.2.1))
 (some (([]:List (UInt8)),((9:Int),())))
 (aj (within (0:Int) (@len Sb y3.2.1))
 (ah (@idx Sb y3.2.1 (0:Int)) (fun(y4:List (UInt8))=>some (y4,((0:Int),()))))
 none)))))
 (aj (cO (0:Int) y2.2.1.1)
 (ah (@idx cL x.1 y2.2.1.1) (fun(y3:Sb×(List Sb)×Unit)=>some (y3.1,((0:Int),()))))
 (ah (Loop (Fk x y2) (((),((0:Int),())),(([]:List Sb),()))) (fun(y3:vh×(List Sb)×Unit)=>aj (aj (nt (aj (nt (cc y2.2.2.1 ([]:List (UInt8))))
 (cO (6:Int) (@len UInt8 y2.2.2.1))
 true))
 (bC (@len Sb y3.2.1) (0:Int))
 true)
 (some (([]:List (UInt8)),((3:Int),())))
 (aj (aY (1:Int) (@len Sb y3.2.1))
 (some (([]:List (UInt8)),((9:Int),())))
 (aj (within (0:Int) (@len Sb y3.2.1))
 (ah (@idx Sb y3.2.1 (0:Int)) (fun(y4:List (UInt8))=>some (y4,((0:Int),()))))
 none))))))))
 (aj (cO (0:Int) y1.2.1.1)
 (some (x.2.1,((0:Int),())))
 (ah (Loop (Fl x) (((0:Int),((0:Int),())),(x.2.1,()))) (fun(y2:Nat×bV×Sb×Unit)=>aj (fB y2.1 (0:Nat))
 (aj (cO (0:Int) (-1:Int))
 (ah (@idx cL x.1 (-1:Int)) (fun(y3:Sb×(List Sb)×Unit)=>some (y3.1,((0:Int),()))))
 (ah (Loop (Fm x y2) (((),((0:Int),())),(([]:List Sb),()))) (fun(y3:vh×(List Sb)×Unit)=>aj (aj (nt (aj (nt (cc y2.2.2.1 ([]:List (UInt8))))
 (cO (6:Int) (@len UInt8 y2.2.2.1))
 true))
 (bC (@len Sb y3.2.1) (0:Int))
 true)
 (some (([]:List (UInt8)),((3:Int),())))
 (aj (aY (1:Int) (@len Sb y3.2.1))
 (some (([]:List (UInt8)),((9:Int),())))
 (aj (within (0:Int) (@len Sb y3.2.1))
 (ah (@idx Sb y3.2.1 (0:Int)) (fun(y4:List (UInt8))=>some (y4,((0:Int),()))))
 none)))))
 (aj (cO (0:Int) y2.2.1.1)
 (ah (@idx cL x.1 y2.2.1.1) (fun(y3:Sb×(List Sb)×Unit)=>some (y3.1,((0:Int),()))))
 (ah (Loop (Fo x y2) (((),((0:Int),())),(([]:List Sb),()))) (fun(y3:vh×(List Sb)×Unit)=>aj (aj (nt (aj (nt (cc y2.2.2.1 ([]:List (UInt8))))
 (cO (6:Int) (@len UInt8 y2.2.2.1))
 true))
 (bC (@len Sb y3.2.1) (0:Int))
 true)
 (some (([]:List (UInt8)),((3:Int),())))
 (aj (aY (1:Int) (@len Sb y3.2.1))
 (some (([]:List (UInt8)),((9:Int),())))
 (aj (within (0:Int) (@len Sb y3.2.1))
 (ah (@idx Sb y3.2.1 (0:Int)) (fun(y4:List (UInt8))=>some (y4,((0:Int),()))))
 none)))))))))
noncomputable def qa(x:iW×Unit):Option ((List cL)×Unit) :=
 ah (uw ((3:Int),(((0:Int),(x.1.2.2.1,(([]:List bp),(([]:List CD),())))),()))) (fun(y1:(List cL)×Unit)=>some (y1.1,()))
noncomputable def rC(x:iW×Sb×Unit):Option (Sb×Int×Unit) :=
 ah (qa (x.1,())) (fun(y1:(List cL)×Unit)=>ah (nR (y1.1,(x.2.1,()))) (fun(y2:Sb×Int×Unit)=>some (y2.1,(y2.2.1,()))))
noncomputable def fH(x:iW×Unit):Option ((List cL)×Unit) :=
 ah (uw ((2:Int),(((0:Int),(([]:List SC),(x.1.2.1,(([]:List CD),())))),()))) (fun(y1:(List cL)×Unit)=>some (y1.1,()))
noncomputable def vi(x:Int×Unit):Option (Sb×Unit) :=
 aj (aY (16:Int) (0:Int))
 none
 (aj (aY (8:Int) (0:Int))
 none
 (ah (pX (bz ([qy IntKind.u8 (rN IntKind.i64 x.1 (16:Int)),qy IntKind.u8 (rN IntKind.i64 x.1 (8:Int)),qy IntKind.u8 x.1]:List (Int)),())) (fun(y1:Sb×Unit)=>some (y1.1,()))))
noncomputable def fQ(x:(List cL)×Int×Unit)(y3:bV×Sb×Unit):Option (fP⊕fO) :=
 aj (aY y3.1.2.1 (@len cL x.1))
 (ah (@idx cL x.1 y3.1.2.1) (fun(y4:Sb×(List Sb)×Unit)=>aj (cc y4.1 y3.2.1)
 (some (Sum.inr ((1:Nat),((y3.1.2.1,(y3.1.2.1,())),(y3.2.1,()))):(fP)⊕(fO)))
 (some (Sum.inl ((y3.1.1,(aI IntKind.i64 y3.1.2.1 (1:Int),())),(y3.2.1,())):(fP)⊕(fO)))))
 (some (Sum.inr ((0:Nat),((y3.1.1,(y3.1.2.1,())),(y3.2.1,()))):(fP)⊕(fO)))
noncomputable def iK(x:(List cL)×Int×Unit)(y1:lB×Unit):Option ((lB×Unit)⊕(Nat×lB×Unit)) :=
 aj (aY y1.1.2.2.1 (aI IntKind.i64 (@len cL x.1) (1:Int)))
 (aj (bC (16777216:Int) (0:Int))
 none
 (ah (vi (ij (aI IntKind.i64 (jF IntKind.i64 x.2.1 (16777215:Int)) y1.1.2.2.1) (16777216:Int),())) (fun(y2:Sb×Unit)=>ah (Loop (fQ x) (((0:Int),((0:Int),())),(y2.1,()))) (fun(y3:Nat×bV×Sb×Unit)=>aj (fB y3.1 (0:Nat))
 (aj (nt (cO (0:Int) (-1:Int)))
 (some (Sum.inr ((1:Nat),((y2.1,((0:Int),(y1.1.2.2.1,()))),())):((lB×Unit))⊕((Nat×lB×Unit))))
 (some (Sum.inl ((y1.1.1,(y1.1.2.1,(aI IntKind.i64 y1.1.2.2.1 (1:Int),()))),()):((lB×Unit))⊕((Nat×lB×Unit)))))
 (aj (nt (cO (0:Int) y3.2.1.1))
 (some (Sum.inr ((1:Nat),((y2.1,((0:Int),(y1.1.2.2.1,()))),())):((lB×Unit))⊕((Nat×lB×Unit))))
 (some (Sum.inl ((y1.1.1,(y1.1.2.1,(aI IntKind.i64 y1.1.2.2.1 (1:Int),()))),()):((lB×Unit))⊕((Nat×lB×Unit)))))))))
 (some (Sum.inr ((0:Nat),((y1.1.1,(y1.1.2.1,(y1.1.2.2.1,()))),())):((lB×Unit))⊕((Nat×lB×Unit))))
noncomputable def mu(x:(List cL)×Int×Unit):Option (Sb×Int×Unit) :=
 aj (cO (32:Int) (@len cL x.1))
 (some (([]:List (UInt8)),((5:Int),())))
 (ah (Loop (iK x) ((([]:List (UInt8)),((0:Int),((0:Int),()))),())) (fun(y1:Nat×lB×Unit)=>aj (fB y1.1 (0:Nat))
 (some (([]:List (UInt8)),((5:Int),())))
 (some (y1.2.1.1,(y1.2.1.2.1,())))))
noncomputable def eB(x:bp×Unit):Option (Sb×Unit) :=
 some (x.1.1,())
noncomputable def oN(x:(List bp)×Unit):Option ((List bp)×Unit) :=
 bif fits (len x.1) then some (x.1,()) else none
noncomputable def kK(x:iW×bp×Unit)(y4:bV×Unit×Sb×Unit):Option (e9⊕e7) :=
 aj (aY y4.1.2.1 (@len bp x.1.2.1))
 (ah (@idx bp x.1.2.1 y4.1.2.1) (fun(y5:Sb×(List Sb)×Sb×Sb×(List aL)×Unit)=>ah (eB (y5,())) (fun(y6:Sb×Unit)=>aj (cc y6.1 y4.2.2.1)
 (some (Sum.inr ((1:Nat),((y4.1.2.1,(y4.1.2.1,())),((),(y4.2.2.1,())))):(e9)⊕(e7)))
 (some (Sum.inl ((y4.1.1,(aI IntKind.i64 y4.1.2.1 (1:Int),())),((),(y4.2.2.1,()))):(e9)⊕(e7))))))
 (some (Sum.inr ((0:Nat),((y4.1.1,(y4.1.2.1,())),((),(y4.2.2.1,())))):(e9)⊕(e7)))
noncomputable def oA(y5:(Unit×Unit)×(List bp)×Unit)(y6:bV×Unit×bp×Unit):Option ((bV×Unit×bp×Unit)⊕vg) :=
 aj (aY y6.1.2.1 (@len bp y5.2.1))
 (aj (within y6.1.2.1 (@len bp y5.2.1))
 (ah (@idx bp y5.2.1 y6.1.2.1) (fun(y7:Sb×(List Sb)×Sb×Sb×(List aL)×Unit)=>ah (eB (y7,())) (fun(y8:Sb×Unit)=>ah (eB (y6.2.2.1,())) (fun(y9:Sb×Unit)=>aj (nt (iD y8.1 y9.1))
 (some (Sum.inr ((1:Nat),((y6.1.2.1,(y6.1.2.1,())),((),(y6.2.2.1,())))):((bV×Unit×bp×Unit))⊕(vg)))
 (some (Sum.inl ((y6.1.1,(aI IntKind.i64 y6.1.2.1 (1:Int),())),((),(y6.2.2.1,()))):((bV×Unit×bp×Unit))⊕(vg)))))))
 none)
 (some (Sum.inr ((0:Nat),((y6.1.1,(y6.1.2.1,())),((),(y6.2.2.1,())))):((bV×Unit×bp×Unit))⊕(vg)))
noncomputable def Hf(y5:(Unit×Unit)×(List bp)×Unit)(y6:bV×Unit×bp×Unit):Option ((bV×Unit×bp×Unit)⊕vg) :=
 aj (aY y6.1.2.1 (@len bp y5.2.1))
 (aj (within y6.1.2.1 (@len bp y5.2.1))
 (ah (@idx bp y5.2.1 y6.1.2.1) (fun(y7:Sb×(List Sb)×Sb×Sb×(List aL)×Unit)=>ah (eB (y7,())) (fun(y8:Sb×Unit)=>ah (eB (y6.2.2.1,())) (fun(y9:Sb×Unit)=>aj (nt (iD y8.1 y9.1))
 (some (Sum.inr ((1:Nat),((y6.1.2.1,(y6.1.2.1,())),((),(y6.2.2.1,())))):((bV×Unit×bp×Unit))⊕(vg)))
 (some (Sum.inl ((y6.1.1,(aI IntKind.i64 y6.1.2.1 (1:Int),())),((),(y6.2.2.1,()))):((bV×Unit×bp×Unit))⊕(vg)))))))
 none)
 (some (Sum.inr ((0:Nat),((y6.1.1,(y6.1.2.1,())),((),(y6.2.2.1,())))):((bV×Unit×bp×Unit))⊕(vg)))
noncomputable def qb(x:iW×bp×Unit):Option (iW×Unit) :=
 ah (bL (x.2.1.2.1,())) (fun(y1:(List Sb)×Unit)=>ah (cI (x.2.1.2.2.2.2.1,())) (fun(y2:(List aL)×Unit)=>ah (eB ((x.2.1.1,(y1.1,(x.2.1.2.2.1,(x.2.1.2.2.2.1,(y2.1,x.2.1.2.2.2.2.2))))),())) (fun(y3:Sb×Unit)=>aj (fits (@len bp x.1.2.1))
 (ah (Loop (kK x) (((0:Int),((0:Int),())),((),(y3.1,())))) (fun(y4:Nat×bV×Unit×Sb×Unit)=>aj (fB y4.1 (0:Nat))
 (ah (aj (cO (0:Int) (-1:Int))
 (ah (bh x.1.2.1 ((-1:Int),(aI IntKind.i64 (-1:Int) (1:Int),()))) (fun(y5:List bp)=>some (((),()),(y5,()))))
 (some (((),()),(x.1.2.1,())))) (fun(y5:(Unit×Unit)×(List bp)×Unit)=>ah (Loop (oA y5) (((0:Int),((0:Int),())),((),((x.2.1.1,(y1.1,(x.2.1.2.2.1,(x.2.1.2.2.2.1,(y2.1,x.2.1.2.2.2.2.2))))),())))) (fun(y6:Nat×bV×Unit×bp×Unit)=>aj (fB y6.1 (0:Nat))
 (ah (bJ y5.2.1 (((aj (aY (-1:Int) (0:Int))
 ((@len bp y5.2.1,()),())
 (((-1:Int),()),())).1).1,(([y6.2.2.2.1]:List bp),()))) (fun(y7:List bp)=>some ((x.1.1,(y7,x.1.2.2)),())))
 (ah (bJ y5.2.1 (((aj (aY y6.2.1.1 (0:Int))
 ((@len bp y5.2.1,()),())
 ((y6.2.1.1,()),())).1).1,(([y6.2.2.2.1]:List bp),()))) (fun(y7:List bp)=>some ((x.1.1,(y7,x.1.2.2)),()))))))
 (ah (aj (cO (0:Int) y4.2.1.1)
 (ah (bh x.1.2.1 (y4.2.1.1,(aI IntKind.i64 y4.2.1.1 (1:Int),()))) (fun(y5:List bp)=>some (((),()),(y5,()))))
 (some (((),()),(x.1.2.1,())))) (fun(y5:(Unit×Unit)×(List bp)×Unit)=>ah (Loop (Hf y5) (((0:Int),((0:Int),())),((),((x.2.1.1,(y1.1,(x.2.1.2.2.1,(x.2.1.2.2.2.1,(y2.1,x.2.1.2.2.2.2.2))))),())))) (fun(y6:Nat×bV×Unit×bp×Unit)=>aj (fB y6.1 (0:Nat))
 (ah (bJ y5.2.1 (((aj (aY (-1:Int) (0:Int))
 ((@len bp y5.2.1,()),())
 (((-1:Int),()),())).1).1,(([y6.2.2.2.1]:List bp),()))) (fun(y7:List bp)=>some ((x.1.1,(y7,x.1.2.2)),())))
 (ah (bJ y5.2.1 (((aj (aY y6.2.1.1 (0:Int))
 ((@len bp y5.2.1,()),())
 ((y6.2.1.1,()),())).1).1,(([y6.2.2.2.1]:List bp),()))) (fun(y7:List bp)=>some ((x.1.1,(y7,x.1.2.2)),()))))))))
 none)))
noncomputable def iy(x:iW×Sb×(List Sb)×Sb×Int×Unit):Option (iW×ow×Unit) :=
 ah (nQ (x.2.2.1,())) (fun(y1:Int×Unit)=>aj (aj (nt (nt (bC y1.1 (0:Int))))
 (aY (64:Int) (@len UInt8 x.2.2.2.1))
 true)
 (ah (gQ ((1:Int),())) (fun(y2:ow×Unit)=>some (x.1,(y2.1,()))))
 (ah (aj (nt (cc x.2.1 ([]:List (UInt8))))
 (ah (rC (x.1,(x.2.1,()))) (fun(y2:Sb×Int×Unit)=>some ((y2.2.1,()),((([]:List (UInt8)),(x.2.2.1,(y2.1,(x.2.2.2.1,(([]:List aL),()))))),()))))
 (some (((0:Int),()),((([]:List (UInt8)),(x.2.2.1,(([]:List (UInt8)),(x.2.2.2.1,(([]:List aL),()))))),())))) (fun(y2:(Int×Unit)×bp×Unit)=>ah (aj (bC y2.1.1 (0:Int))
 (ah (fH (x.1,())) (fun(y3:(List cL)×Unit)=>ah (p7 (y3.1,(([]:List (UInt8)),(x.2.2.1,())))) (fun(y4:Int×Unit)=>some ((y4.1,()),()))))
 (some ((y2.1.1,()),()))) (fun(y3:(Int×Unit)×Unit)=>ah (aj (bC y3.1.1 (0:Int))
 (ah (fH (x.1,())) (fun(y4:(List cL)×Unit)=>ah (mu (y4.1,(x.2.2.2.2.1,()))) (fun(y5:Sb×Int×Unit)=>some ((y5.2.1,()),((y5.1,y2.2.1.2),())))))
 (some ((y3.1.1,()),(y2.2.1,())))) (fun(y4:(Int×Unit)×bp×Unit)=>aj (nt (bC y4.1.1 (0:Int)))
 (ah (gQ (y4.1.1,())) (fun(y5:ow×Unit)=>some (x.1,(y5.1,()))))
 (ah (qb (x.1,(y4.2.1,()))) (fun(y5:iW×Unit)=>some (y5.1,(((0:Int),(y4.2.1.1,((0:Int),(([]:List (UInt8)),())))),())))))))))
noncomputable def nS(x:iW×Sb×Unit):Option (Sb×Int×Unit) :=
 ah (fH (x.1,())) (fun(y1:(List cL)×Unit)=>ah (nR (y1.1,(x.2.1,()))) (fun(y2:Sb×Int×Unit)=>some (y2.1,(y2.2.1,()))))
noncomputable def jV(x:iW×Sb×Unit)(y2:bV×Sb×Unit):Option (fP⊕fO) :=
 aj (aY y2.1.2.1 (@len CD x.1.1))
 (ah (@idx CD x.1.1 y2.1.2.1) (fun(y3:Sb×(List Sb)×Sb×Sb×Sb×(List aL)×Unit)=>aj (cc y3.2.2.1 y2.2.1)
 (some (Sum.inr ((1:Nat),((y2.1.2.1,(y2.1.2.1,())),(y2.2.1,()))):(fP)⊕(fO)))
 (some (Sum.inl ((y2.1.1,(aI IntKind.i64 y2.1.2.1 (1:Int),())),(y2.2.1,())):(fP)⊕(fO)))))
 (some (Sum.inr ((0:Nat),((y2.1.1,(y2.1.2.1,())),(y2.2.1,()))):(fP)⊕(fO)))
noncomputable def jW(x:iW×Sb×Unit)(y3:bV×Unit×Sb×Unit):Option (e9⊕e7) :=
 aj (aY y3.1.2.1 (@len bp x.1.2.1))
 (ah (@idx bp x.1.2.1 y3.1.2.1) (fun(y4:Sb×(List Sb)×Sb×Sb×(List aL)×Unit)=>ah (eB (y4,())) (fun(y5:Sb×Unit)=>aj (cc y5.1 y3.2.2.1)
 (some (Sum.inr ((1:Nat),((y3.1.2.1,(y3.1.2.1,())),((),(y3.2.2.1,())))):(e9)⊕(e7)))
 (some (Sum.inl ((y3.1.1,(aI IntKind.i64 y3.1.2.1 (1:Int),())),((),(y3.2.2.1,()))):(e9)⊕(e7))))))
 (some (Sum.inr ((0:Nat),((y3.1.1,(y3.1.2.1,())),((),(y3.2.2.1,())))):(e9)⊕(e7)))
noncomputable def CE(x:iW×Sb×Unit)(y3:bV×Unit×Sb×Unit):Option (e9⊕e7) :=
 aj (aY y3.1.2.1 (@len bp x.1.2.1))
 (ah (@idx bp x.1.2.1 y3.1.2.1) (fun(y4:Sb×(List Sb)×Sb×Sb×(List aL)×Unit)=>ah (eB (y4,())) (fun(y5:Sb×Unit)=>aj (cc y5.1 y3.2.2.1)
 (some (Sum.inr ((1:Nat),((y3.1.2.1,(y3.1.2.1,())),((),(y3.2.2.1,())))):(e9)⊕(e7)))
 (some (Sum.inl ((y3.1.1,(aI IntKind.i64 y3.1.2.1 (1:Int),())),((),(y3.2.2.1,()))):(e9)⊕(e7))))))
 (some (Sum.inr ((0:Nat),((y3.1.1,(y3.1.2.1,())),((),(y3.2.2.1,())))):(e9)⊕(e7)))
noncomputable def iz(x:iW×Sb×Unit):Option (iW×ow×Unit) :=
 ah (nS (x.1,(x.2.1,()))) (fun(y1:Sb×Int×Unit)=>aj (nt (bC y1.2.1 (0:Int)))
 (ah (gQ (y1.2.1,())) (fun(y2:ow×Unit)=>some (x.1,(y2.1,()))))
 (ah (Loop (jV x) (((0:Int),((0:Int),())),(y1.1,()))) (fun(y2:Nat×bV×Sb×Unit)=>aj (fB y2.1 (0:Nat))
 (aj (cO (0:Int) (-1:Int))
 (ah (gQ ((7:Int),())) (fun(y3:ow×Unit)=>some (x.1,(y3.1,()))))
 (aj (fits (@len bp x.1.2.1))
 (ah (Loop (jW x) (((0:Int),((0:Int),())),((),(y2.2.2.1,())))) (fun(y3:Nat×bV×Unit×Sb×Unit)=>aj (fB y3.1 (0:Nat))
 (ah (aj (cO (0:Int) (-1:Int))
 (ah (bh x.1.2.1 ((-1:Int),(aI IntKind.i64 (-1:Int) (1:Int),()))) (fun(y4:List bp)=>some (((),()),(y4,()))))
 (some (((),()),(x.1.2.1,())))) (fun(y4:(Unit×Unit)×(List bp)×Unit)=>some ((x.1.1,(y4.2.1,x.1.2.2)),(((0:Int),(y2.2.2.1,((0:Int),(([]:List (UInt8)),())))),()))))
 (ah (aj (cO (0:Int) y3.2.1.1)
 (ah (bh x.1.2.1 (y3.2.1.1,(aI IntKind.i64 y3.2.1.1 (1:Int),()))) (fun(y4:List bp)=>some (((),()),(y4,()))))
 (some (((),()),(x.1.2.1,())))) (fun(y4:(Unit×Unit)×(List bp)×Unit)=>some ((x.1.1,(y4.2.1,x.1.2.2)),(((0:Int),(y2.2.2.1,((0:Int),(([]:List (UInt8)),())))),()))))))
 none))
 (aj (cO (0:Int) y2.2.1.1)
 (ah (gQ ((7:Int),())) (fun(y3:ow×Unit)=>some (x.1,(y3.1,()))))
 (aj (fits (@len bp x.1.2.1))
 (ah (Loop (CE x) (((0:Int),((0:Int),())),((),(y2.2.2.1,())))) (fun(y3:Nat×bV×Unit×Sb×Unit)=>aj (fB y3.1 (0:Nat))
 (ah (aj (cO (0:Int) (-1:Int))
 (ah (bh x.1.2.1 ((-1:Int),(aI IntKind.i64 (-1:Int) (1:Int),()))) (fun(y4:List bp)=>some (((),()),(y4,()))))
 (some (((),()),(x.1.2.1,())))) (fun(y4:(Unit×Unit)×(List bp)×Unit)=>some ((x.1.1,(y4.2.1,x.1.2.2)),(((0:Int),(y2.2.2.1,((0:Int),(([]:List (UInt8)),())))),()))))
 (ah (aj (cO (0:Int) y3.2.1.1)
 (ah (bh x.1.2.1 (y3.2.1.1,(aI IntKind.i64 y3.2.1.1 (1:Int),()))) (fun(y4:List bp)=>some (((),()),(y4,()))))
 (some (((),()),(x.1.2.1,())))) (fun(y4:(Unit×Unit)×(List bp)×Unit)=>some ((x.1.1,(y4.2.1,x.1.2.2)),(((0:Int),(y2.2.2.1,((0:Int),(([]:List (UInt8)),())))),()))))))
 none)))))
noncomputable def oB(x:iW×Sb×Unit)(y1:nC×bp×Unit):Option ((nC×bp×Unit)⊕(Nat×nC×bp×Unit)) :=
 aj (aY y1.1.2.1 (@len bp x.1.2.1))
 (ah (@idx bp x.1.2.1 y1.1.2.1) (fun(y2:Sb×(List Sb)×Sb×Sb×(List aL)×Unit)=>aj (cc y2.1 x.2.1)
 (ah (bL (y2.2.1,())) (fun(y3:(List Sb)×Unit)=>ah (cI (y2.2.2.2.2.1,())) (fun(y4:(List aL)×Unit)=>some (Sum.inr ((1:Nat),((true,(y1.1.2.1,())),((y2.1,(y3.1,(y2.2.2.1,(y2.2.2.2.1,(y4.1,y2.2.2.2.2.2))))),()))):((nC×bp×Unit))⊕((Nat×nC×bp×Unit))))))
 (some (Sum.inl ((y1.1.1,(aI IntKind.i64 y1.1.2.1 (1:Int),())),(y1.2.1,())):((nC×bp×Unit))⊕((Nat×nC×bp×Unit))))))
 (some (Sum.inr ((0:Nat),((y1.1.1,(y1.1.2.1,())),(y1.2.1,()))):((nC×bp×Unit))⊕((Nat×nC×bp×Unit))))
noncomputable def qc(x:iW×Sb×Unit):Option (bp×Bool×Unit) :=
 ah (Loop (oB x) ((false,((0:Int),())),((([]:List (UInt8)),(([]:List Sb),(([]:List (UInt8)),(([]:List (UInt8)),(([]:List aL),()))))),()))) (fun(y1:Nat×nC×bp×Unit)=>aj (fB y1.1 (0:Nat))
 (some ((([]:List (UInt8)),(([]:List Sb),(([]:List (UInt8)),(([]:List (UInt8)),(([]:List aL),()))))),(false,())))
 (some (y1.2.2.1,(y1.2.1.1,()))))
noncomputable def nT(x:Unit):Option (Bool×Unit) :=
 ah (iy ((([]:List CD),(([]:List bp),(([]:List SC),(([]:List Sb),(([]:List (Sb×Int×Unit)),()))))),(([]:List (UInt8)),(([([(119:UInt8),(101:UInt8),(98:UInt8)]:List (UInt8))]:List Sb),(([(109:UInt8)]:List (UInt8)),((7:Int),())))))) (fun(y1:iW×ow×Unit)=>ah (iy (y1.1,(([(120:UInt8)]:List (UInt8)),(([]:List Sb),(([]:List (UInt8)),((7:Int),())))))) (fun(y2:iW×ow×Unit)=>ah (iz ((([(([(48:UInt8),(48:UInt8),(48:UInt8),(48:UInt8),(48:UInt8),(49:UInt8)]:List (UInt8)),(([]:List Sb),(([(48:UInt8),(48:UInt8),(48:UInt8),(48:UInt8),(48:UInt8),(55:UInt8)]:List (UInt8)),(([]:List (UInt8)),(([]:List (UInt8)),(([]:List aL),()))))))]:List CD),y1.1.2),(([(119:UInt8),(101:UInt8),(98:UInt8)]:List (UInt8)),()))) (fun(y3:iW×ow×Unit)=>ah (iz (y1.1,(([(119:UInt8),(101:UInt8),(98:UInt8)]:List (UInt8)),()))) (fun(y4:iW×ow×Unit)=>ah (wV (([]:List aL),(([(107:UInt8)]:List (UInt8)),(([(118:UInt8)]:List (UInt8)),())))) (fun(y5:(List aL)×Int×Unit)=>ah (wW (y5.1,(([(107:UInt8)]:List (UInt8)),()))) (fun(y6:Sb×Int×Unit)=>ah (qc (y1.1,(([(48:UInt8),(48:UInt8),(48:UInt8),(48:UInt8),(48:UInt8),(55:UInt8)]:List (UInt8)),()))) (fun(y7:bp×Bool×Unit)=>some (aj (aj (aj (aj (aj (aj (aj (aj (aj (an (bC y1.2.1.1 (0:Int)) (an (cc y1.2.1.2.1 ([(48:UInt8),(48:UInt8),(48:UInt8),(48:UInt8),(48:UInt8),(55:UInt8)]:List (UInt8))) (an (bC y1.2.1.2.2.1 (0:Int)) (an (cc y1.2.1.2.2.2.1 ([]:List (UInt8))) true))))
 (bC y2.2.1.1 (3:Int))
 false)
 (bC y3.2.1.1 (7:Int))
 false)
 (cc y4.2.1.2.1 ([(48:UInt8),(48:UInt8),(48:UInt8),(48:UInt8),(48:UInt8),(55:UInt8)]:List (UInt8)))
 false)
 (bC (@len bp y4.1.2.1) (0:Int))
 false)
 (bC y5.2.1 (0:Int))
 false)
 (cc y6.1 ([(118:UInt8)]:List (UInt8)))
 false)
 (bC y6.2.1 (0:Int))
 false)
 y7.2.1
 false)
 (cc y7.1.2.2.2.1 ([(109:UInt8)]:List (UInt8)))
 false,()))))))))
noncomputable def iL(x:(List aL)×(List aL)×Unit)(y1:nC×Unit):Option (oz⊕ou) :=
 aj (aj (aY y1.1.2.1 (@len aL x.1))
 (aY y1.1.2.1 (@len aL x.2.1))
 false)
 (ah (@idx aL x.1 y1.1.2.1) (fun(y2:Sb×Sb×Sb×Unit)=>ah (@idx aL x.2.1 y1.1.2.1) (fun(y3:Sb×Sb×Sb×Unit)=>aj (nt (an (cc y2.1 y3.1) (an (cc y2.2.1 y3.2.1) (an (cc y2.2.2.1 y3.2.2.1) true))))
 (some (Sum.inr ((1:Nat),((false,(y1.1.2.1,())),())):(oz)⊕(ou)))
 (some (Sum.inl ((y1.1.1,(aI IntKind.i64 y1.1.2.1 (1:Int),())),()):(oz)⊕(ou))))))
 (some (Sum.inr ((0:Nat),((y1.1.1,(y1.1.2.1,())),())):(oz)⊕(ou)))
noncomputable def fR(x:(List aL)×(List aL)×Unit):Option (Bool×Unit) :=
 aj (nt (bC (@len aL x.1) (@len aL x.2.1)))
 (some (false,()))
 (ah (Loop (iL x) ((false,((0:Int),())),())) (fun(y1:Nat×nC×Unit)=>aj (fB y1.1 (0:Nat))
 (some (true,()))
 (some (y1.2.1.1,()))))
noncomputable def mW(x:(List aL)×Unit)(y1:nC×Unit):Option (oz⊕ou) :=
 aj (aY y1.1.2.1 (@len aL x.1))
 (ah (@idx aL x.1 y1.1.2.1) (fun(y2:Sb×Sb×Sb×Unit)=>ah (mh (y2.1,())) (fun(y3:Bool×Unit)=>aj (nt y3.1)
 (some (Sum.inr ((1:Nat),((false,(y1.1.2.1,())),())):(oz)⊕(ou)))
 (ah (@idx aL x.1 y1.1.2.1) (fun(y4:Sb×Sb×Sb×Unit)=>aj (aY (64:Int) (@len UInt8 y4.2.2.1))
 (some (Sum.inr ((1:Nat),((false,(y1.1.2.1,())),())):(oz)⊕(ou)))
 (ah (@idx aL x.1 y1.1.2.1) (fun(y5:Sb×Sb×Sb×Unit)=>ah (@idx aL x.1 y1.1.2.1) (fun(y6:Sb×Sb×Sb×Unit)=>ah (uq (y6.2.2.1,())) (fun(y7:Sb×Unit)=>aj (nt (cc y5.2.1 y7.1))
 (some (Sum.inr ((1:Nat),((false,(y1.1.2.1,())),())):(oz)⊕(ou)))
 (aj (aY (0:Int) y1.1.2.1)
 (ah (@idx aL x.1 (dO IntKind.i64 y1.1.2.1 (1:Int))) (fun(y8:Sb×Sb×Sb×Unit)=>ah (@idx aL x.1 y1.1.2.1) (fun(y9:Sb×Sb×Sb×Unit)=>aj (nt (iD y8.1 y9.1))
 (some (Sum.inr ((1:Nat),((false,(y1.1.2.1,())),())):(oz)⊕(ou)))
 (some (Sum.inl ((y1.1.1,(aI IntKind.i64 y1.1.2.1 (1:Int),())),()):(oz)⊕(ou))))))
 (some (Sum.inl ((y1.1.1,(aI IntKind.i64 y1.1.2.1 (1:Int),())),()):(oz)⊕(ou)))))))))))))
 (some (Sum.inr ((0:Nat),((y1.1.1,(y1.1.2.1,())),())):(oz)⊕(ou)))
noncomputable def kY(x:(List aL)×Unit):Option (Bool×Unit) :=
 ah (Loop (mW x) ((false,((0:Int),())),())) (fun(y1:Nat×nC×Unit)=>aj (fB y1.1 (0:Nat))
 (some (cO (@len aL x.1) (4:Int),()))
 (some (y1.2.1.1,())))
end Go.Ge
namespace Go.Ge
set_option linter.unusedSectionVars false
variable [Lp]
set_option linter.unusedVariables false
set_option linter.unusedSimpArgs false
def NH(ref:Tx)(x:Nm):List Tx:=if x.1.take ref.length=ref then [x.1] else []
def NI(l:List Nm)(ref:Tx):List Tx:=l.flatMap (NH ref)
def tP(ref:Tx)(f:List Tx):Tx×Int×Unit:=if ref=[]∨6≤ref.length then([],(3,())) else match f with|[]=>([],(3,()))|[a]=>(a,(0,()))|_=>([],(9,()))
def ig(l:List Nm)(ref:Tx):Tx×Int×Unit:=if ∃x∈l,x.1=ref then(ref,(0,())) else
 match l.find? (fun x=>decide (ref∈x.2.1)) with|some x=>(x.1,(0,()))|none=>tP ref (NI l ref)
theorem NJ(ref:Tx)(f:List Tx):aj (aj (nt (aj (nt (cc ref ([]:Tx))) (cO (6:Int) (@len UInt8 ref)) true)) (bC (@len Tx f) (0:Int)) true) (some (([]:Tx),((3:Int),())))
  (aj (aY (1:Int) (@len Tx f)) (some (([]:Tx),((9:Int),()))) (aj (within (0:Int) (@len Tx f)) (ah (@idx Tx f (0:Int)) (fun(y4:Tx)=>some (y4,((0:Int),())))) none))=some (tP ref f):=by
 have e1:cc ref ([]:Tx)=decide (ref=[]):=rfl
 have e2:cO (6:Int) (@len UInt8 ref)=decide (6≤ref.length):=by unfold cO len;apply decide_eq_decide.2;omega
 unfold tP
 rw[e1,e2]
 by_cases h1:ref=[]
 ·rw[if_pos (.inl h1),decide_eq_true h1];rfl
 ·rw[decide_eq_false h1]
  by_cases h2:6≤ref.length
  ·rw[if_pos (.inr h2),decide_eq_true h2];rfl
  ·rw[if_neg (by rintro(h|h);exact h1 h;exact h2 h),decide_eq_false h2]
   match f with
   | []=>rfl
   | [a]=>rfl
   | a::b::r =>
     have:aY (1:Int) (@len Tx (a::b::r))=true:=aT (by simp only[len,List.length_cons];omega)
     have h0:bC (@len Tx (a::b::r)) (0:Int)=false:=aN (by simp only[len,List.length_cons];omega)
     rw[h0,this]
     rfl
theorem SD(l:List Nm)(ref:Tx)(hl:l.length≤1000000)(q:Nat×(Int×Int×Unit)×Tx×Unit)(hq:q.2.2.1=ref) :
  Loop (mV (l,(ref,())) q) (((),((0:Int),())),(([]:List Tx),()))=some (((),((l.length:Int),())),(NI l ref,())):=by
 refine zw l (fun out i=>(((),(i,())),(out,()))) (NH ref) _ (by omega) (fun i x hx hi ha=>?_) ?_
 ·have hb:((l.take i).flatMap (NH ref)).length≤l.length:=by
   have:=mS (g:=NH ref) (fun x=>by unfold NH;split<;>simp) l i
   omega
  unfold mV
  dsimp only
  rw[au hi,ag,az hx,aa,hq,SB,aa,ha]
  unfold NH
  by_cases h:x.1.take ref.length=ref
  ·rw[decide_eq_true h,if_pos h,ag]
   have:fits (plus (@len Tx ((l.take i).flatMap (NH ref))) (@len Tx ([x.1]:List Tx)))=true:=cM (by show _+1≤_;omega)
   unfold NH at this
   rw[this]
   rfl
  ·rw[decide_eq_false h,if_neg h]
   rw[List.append_nil]
   rfl
 ·unfold mV
  dsimp only
  rw[aE,af]
  rfl
theorem yK(l:List Nm)(ref:Tx)(hl:Small l)(Hv:l.length≤1000000):nR (l,(ref,()))=some (ig l ref):=by
 unfold nR
 dsimp only
 have mid:∀{f1:(Int×Int×Unit)×Tx×Unit→Option (((Int×Int×Unit)×Tx×Unit)⊕(Nat×(Int×Int×Unit)×Tx×Unit))},f1=gE (l,(ref,())) →
   (∃(i:Nat) (x:Nm),l[i]?=some x∧decide (ref∈x.2.1)=true∧(∀(j:Nat) (y:Nm),j<i→l[j]?=some y→decide (ref∈y.2.1)=false)∧Loop f1 (((0:Int),((0:Int),())),(ref,()))=some (1,(((i:Int),((i:Int),())),(ref,())))) ∨
   ((∀(i:Nat) (x:Nm),l[i]?=some x→decide (ref∈x.2.1)=false)∧Loop f1 (((0:Int),((0:Int),())),(ref,()))=some (0,(((0:Int),(len l,())),(ref,())))):=by
  intro f1 hf
  subst hf
  exact mM (f:=gE (l,(ref,()))) l (fun i=>(((0:Int),(i,())),(ref,()))) (fun _ x=>decide (ref∈x.2.1)) (fun i x=>(1,(((i:Int),((i:Int),())),(ref,())))) (0,(((0:Int),(len l,())),(ref,()))) hl.1 (fun i x hx hi ha=>by
   unfold gE
   dsimp only
   rw[au hi,ag,az hx,aa,zE x.2.1 ref (hl.2 x (List.mem_of_getElem? hx)),aa,lX,ha]
   by_cases h:ref∈x.2.1<;>simp[h]) (by unfold gE;dsimp only;rw[aE,af];rfl)
 rcases mM (f:=mU (l,(ref,()))) l (fun i=>(((0:Int),(i,())),(ref,()))) (fun _ x=>decide (x.1=ref)) (fun i x=>(1,(((i:Int),((i:Int),())),(ref,())))) (0,(((0:Int),(len l,())),(ref,()))) hl.1 (fun i x hx hi ha=>by
  unfold mU
  dsimp only
  rw[au hi,ag,az hx,aa,lX,ha]
  by_cases h:x.1=ref<;>simp[cc,h]) (by unfold mU;dsimp only;rw[aE,af];rfl) with ⟨i,x,hx,hp,hj,h⟩|⟨hn,h⟩
 ·rw[h,aa]
  dsimp only
  rw[show fB 1 0=false from rfl,af,cz (by omega),ag]
  unfold ig
  rw[if_pos ⟨x,List.mem_of_getElem? hx,of_decide_eq_true hp⟩]
 ·rw[h,aa]
  dsimp only
  rw[show fB 0 0=true from rfl,ag,show cO (0:Int) (-1)=false from rfl,af]
  have hno:¬∃x∈l,x.1=ref:=by
   rintro⟨x,hx,he⟩
   obtain⟨i,hi⟩:=bQ.1 hx
   have:=hn i x hi
   simp[he] at this
  unfold ig
  rw[if_neg hno]
  rcases mid (f1:=gE (l,(ref,()))) rfl with ⟨i,x,hx,hp,hj,h⟩|⟨hn,h⟩
  ·rw[h,aa]
   dsimp only
   rw[show fB 1 0=false from rfl,af,cz (by omega),ag,az hx,aa]
   have:l.find? (fun x=>decide (ref∈x.2.1))=some x:=by
    rw[List.find?_eq_some_iff_getElem]
    refine⟨hp,i,aH hx,?_,fun j hji=>?_⟩
    ·have:=List.getElem?_eq_getElem (aH hx)
     rw[hx] at this
     exact(Option.some.inj this).symm
    ·have hlt:=aH hx
     have:=hj j l[j] hji (List.getElem?_eq_getElem (by omega))
     simpa using this
   rw[this]
  ·rw[h,aa]
   dsimp only
   rw[show fB 0 0=true from rfl,ag,af,SD l ref Hv _ rfl,aa]
   have:l.find? (fun x=>decide (ref∈x.2.1))=none:=by
    rw[List.find?_eq_none]
    intro x hx
    obtain⟨i,hi⟩:=bQ.1 hx
    have:=hn i x hi
    simpa using this
   rw[this]
   exact NJ ref (NI l ref)
end Go.Ge
namespace Go.Ge
set_option linter.unusedSectionVars false
variable [Lp]
set_option linter.unusedVariables false
set_option maxRecDepth 100000
abbrev bu:=(Sb×Int×Int×Sb×Sb×Unit)
abbrev sV:=(Bool×Int×Unit)
abbrev PT:=((Unit×Int×Unit)×(List bu)×Unit)
abbrev zL:=(Nat×sV×Unit)
abbrev BD:=(Int×Int×Unit)
noncomputable def lC(x:Sb×Unit)(y1:sV×Unit):Option ((sV×Unit)⊕zL) :=
 aj (aY y1.1.2.1 (@len UInt8 x.1))
 (ah (@idx UInt8 x.1 y1.1.2.1) (fun(y2:UInt8)=>aj (bC (u8 y2) (0:Int))
 (some (Sum.inr ((1:Nat),((false,(y1.1.2.1,())),())):((sV×Unit))⊕(zL)))
 (some (Sum.inl ((y1.1.1,(aI IntKind.i64 y1.1.2.1 (1:Int),())),()):((sV×Unit))⊕(zL)))))
 (some (Sum.inr ((0:Nat),((y1.1.1,(y1.1.2.1,())),())):((sV×Unit))⊕(zL)))
noncomputable def qd(x:Sb×Unit):Option (Bool×Unit) :=
 ah (Loop (lC x) ((false,((0:Int),())),())) (fun(y1:Nat×sV×Unit)=>aj (fB y1.1 (0:Nat))
 (some (aj (cO (1:Int) (@len UInt8 x.1))
 (cO (@len UInt8 x.1) (100:Int))
 false,()))
 (some (y1.2.1.1,())))
noncomputable def jN(x:bu×Unit):Option (Bool×Unit) :=
 ah (iV (x.1.1,())) (fun(y1:Sb×Sb×Unit)=>ah (p4 (y1.2.1,())) (fun(y2:Int×Sb×Unit)=>ah (aj (nt (cc x.1.1 ([]:List (UInt8))))
 (ah (ur (x.1.1,())) (fun(y3:Bool×Unit)=>some y3.1))
 (some false)) (fun(y3:Bool)=>aj (bC x.1.2.1 (1:Int))
 (some (aj (aj (aj (aj (aj (aj (aj y3
 (cO (@len UInt8 x.1.1) (92:Int))
 false)
 (cO (@len UInt8 y1.2.1) (28:Int))
 false)
 (bC y2.1 (0:Int))
 false)
 (cO (0:Int) x.1.2.2.1)
 false)
 (cO x.1.2.2.1 (4095:Int))
 false)
 (cc x.1.2.2.2.2.1 ([]:List (UInt8)))
 false)
 (cO (@len UInt8 x.1.2.2.2.1) (8192:Int))
 false,()))
 (aj (bC x.1.2.1 (2:Int))
 (some (aj (aj (aj (aj (aj (aj (aj y3
 (cO (@len UInt8 x.1.1) (92:Int))
 false)
 (cO (@len UInt8 y1.2.1) (28:Int))
 false)
 (bC y2.1 (0:Int))
 false)
 (cO (0:Int) x.1.2.2.1)
 false)
 (cO x.1.2.2.1 (4095:Int))
 false)
 (cc x.1.2.2.2.2.1 ([]:List (UInt8)))
 false)
 (cc x.1.2.2.2.1 ([]:List (UInt8)))
 false,()))
 (aj (bC x.1.2.1 (3:Int))
 (ah (aj (aj (aj (aj (aj (aj (aj y3
 (cO (@len UInt8 x.1.1) (92:Int))
 false)
 (cO (@len UInt8 y1.2.1) (28:Int))
 false)
 (bC y2.1 (0:Int))
 false)
 (cO (0:Int) x.1.2.2.1)
 false)
 (cO x.1.2.2.1 (4095:Int))
 false)
 (cc x.1.2.2.2.1 ([]:List (UInt8)))
 false)
 (ah (qd (x.1.2.2.2.2.1,())) (fun(y4:Bool×Unit)=>some y4.1))
 (some false)) (fun(y4:Bool)=>some (y4,())))
 (some (false,())))))))
noncomputable def oC(x:(List bu)×Sb×Unit)(y1:BD×Unit):Option ((BD×Unit)⊕(Nat×BD×Unit)) :=
 aj (aY y1.1.2.1 (@len bu x.1))
 (ah (@idx bu x.1 y1.1.2.1) (fun(y2:Sb×Int×Int×Sb×Sb×Unit)=>aj (cc y2.1 x.2.1)
 (some (Sum.inr ((1:Nat),((y1.1.2.1,(y1.1.2.1,())),())):((BD×Unit))⊕((Nat×BD×Unit))))
 (some (Sum.inl ((y1.1.1,(aI IntKind.i64 y1.1.2.1 (1:Int),())),()):((BD×Unit))⊕((Nat×BD×Unit))))))
 (some (Sum.inr ((0:Nat),((y1.1.1,(y1.1.2.1,())),())):((BD×Unit))⊕((Nat×BD×Unit))))
noncomputable def gj(x:(List bu)×Sb×Unit):Option (Int×Unit) :=
 ah (Loop (oC x) (((0:Int),((0:Int),())),())) (fun(y1:Nat×BD×Unit)=>aj (fB y1.1 (0:Nat))
 (some ((-1:Int),()))
 (some (y1.2.1.1,())))
noncomputable def mw(x:(List bu)×Sb×Unit):Option (Bool×Unit) :=
 ah (gj (x.1,(x.2.1,()))) (fun(y1:Int×Unit)=>ah (aj (nt (cc x.2.1 ([]:List (UInt8))))
 (ah (aj (cO (0:Int) y1.1)
 (ah (@idx bu x.1 y1.1) (fun(y2:Sb×Int×Int×Sb×Sb×Unit)=>some (bC y2.2.1 (2:Int))))
 (some false)) (fun(y2:Bool)=>some y2))
 (some true)) (fun(y2:Bool)=>some (y2,())))
noncomputable def rD(x:(List bu)×Unit)(y1:sV×Unit):Option ((sV×Unit)⊕zL) :=
 aj (aY y1.1.2.1 (@len bu x.1))
 (ah (@idx bu x.1 y1.1.2.1) (fun(y2:Sb×Int×Int×Sb×Sb×Unit)=>ah (iV (y2.1,())) (fun(y3:Sb×Sb×Unit)=>ah (@idx bu x.1 y1.1.2.1) (fun(y4:Sb×Int×Int×Sb×Sb×Unit)=>ah (jN (y4,())) (fun(y5:Bool×Unit)=>aj (nt y5.1)
 (some (Sum.inr ((1:Nat),((false,(y1.1.2.1,())),())):((sV×Unit))⊕(zL)))
 (ah (mw (x.1,(y3.1,()))) (fun(y6:Bool×Unit)=>aj (nt y6.1)
 (some (Sum.inr ((1:Nat),((false,(y1.1.2.1,())),())):((sV×Unit))⊕(zL)))
 (aj (aY (0:Int) y1.1.2.1)
 (ah (@idx bu x.1 (dO IntKind.i64 y1.1.2.1 (1:Int))) (fun(y7:Sb×Int×Int×Sb×Sb×Unit)=>ah (@idx bu x.1 y1.1.2.1) (fun(y8:Sb×Int×Int×Sb×Sb×Unit)=>ah (kI (y7.1,(y8.1,()))) (fun(y9:Int×Unit)=>aj (cO (0:Int) y9.1)
 (some (Sum.inr ((1:Nat),((false,(y1.1.2.1,())),())):((sV×Unit))⊕(zL)))
 (some (Sum.inl ((y1.1.1,(aI IntKind.i64 y1.1.2.1 (1:Int),())),()):((sV×Unit))⊕(zL)))))))
 (some (Sum.inl ((y1.1.1,(aI IntKind.i64 y1.1.2.1 (1:Int),())),()):((sV×Unit))⊕(zL)))))))))))
 (some (Sum.inr ((0:Nat),((y1.1.1,(y1.1.2.1,())),())):((sV×Unit))⊕(zL)))
noncomputable def jX(x:(List bu)×Unit):Option (Bool×Unit) :=
 aj (aY (64:Int) (@len bu x.1))
 (some (false,()))
 (ah (Loop (rD x) ((false,((0:Int),())),())) (fun(y1:Nat×sV×Unit)=>aj (fB y1.1 (0:Nat))
 (some (true,()))
 (some (y1.2.1.1,()))))
noncomputable def gR(x:(List bu)×Sb×Bool×Unit)(y1:(Unit×Int×Unit)×(List bu)×Unit):Option (PT⊕PT) :=
 @ep PT (aj (aY y1.1.2.1 (@len bu x.1))
 (ah (@idx bu x.1 y1.1.2.1) (fun(y2:Sb×Int×Int×Sb×Sb×Unit)=>ah (rq (y2.1,(x.2.1,()))) (fun(y3:Bool×Unit)=>ah (aj (nt y3.1)
 (ah (aj (nt (nt x.2.2.1))
 (ah (@idx bu x.1 y1.1.2.1) (fun(y4:Sb×Int×Int×Sb×Sb×Unit)=>some (nt (cc y4.1 x.2.1))))
 (some true)) (fun(y4:Bool)=>some y4))
 (some false)) (fun(y4:Bool)=>ah (aj y4
 (ah (@idx bu x.1 y1.1.2.1) (fun(y5:Sb×Int×Int×Sb×Sb×Unit)=>aj (fits (plus (@len bu y1.2.1) (@len bu ([y5]:List bu))))
 (some (((),()),(@app bu y1.2.1 ([y5]:List bu),())))
 none))
 (some (((),()),(y1.2.1,())))) (fun(y5:(Unit×Unit)×(List bu)×Unit)=>some (Sum.inl (((),(aI IntKind.i64 y1.1.2.1 (1:Int),())),(y5.2.1,())):(PT)⊕((Nat×(Unit×Int×Unit)×(List bu)×Unit))))))))
 (some (Sum.inr ((0:Nat),(((),(y1.1.2.1,())),(y1.2.1,()))):(PT)⊕((Nat×(Unit×Int×Unit)×(List bu)×Unit)))))
noncomputable def iA(x:(List bu)×Sb×Bool×Unit):Option ((List bu)×Unit) :=
 ah (Loop (gR x) (((),((0:Int),())),(([]:List bu),()))) (fun(y1:(Unit×Int×Unit)×(List bu)×Unit)=>some (y1.2.1,()))
noncomputable def jy(x:(List bu)×bu×Unit)(y8:((List bu)×Unit)×Unit)(y9:(Int×Unit)×Unit):Option (((Int×Unit)×Unit)⊕((Int×Unit)×Unit)) :=
 @ep ((Int×Unit)×Unit) (aj (aY y9.1.1 (@len bu y8.1.1))
 (ah (@idx bu y8.1.1 y9.1.1) (fun(tf:Sb×Int×Int×Sb×Sb×Unit)=>ah (kI (tf.1,(x.2.1.1,()))) (fun(oc:Int×Unit)=>aj (aY oc.1 (0:Int))
 (some (Sum.inl ((aI IntKind.i64 y9.1.1 (1:Int),()),()):(((Int×Unit)×Unit))⊕((Nat×(Int×Unit)×Unit))))
 (some (Sum.inr ((0:Nat),((y9.1.1,()),())):(((Int×Unit)×Unit))⊕((Nat×(Int×Unit)×Unit)))))))
 (some (Sum.inr ((0:Nat),((y9.1.1,()),())):(((Int×Unit)×Unit))⊕((Nat×(Int×Unit)×Unit)))))
noncomputable def mz(x:(List bu)×bu×Unit):Option ((List bu)×Int×Unit) :=
 ah (jX (x.1,())) (fun(y1:Bool×Unit)=>ah (aj (nt (nt y1.1))
 (ah (jN (x.2.1,())) (fun(y2:Bool×Unit)=>some (nt y2.1)))
 (some true)) (fun(y2:Bool)=>aj y2
 (some (([]:List bu),((1:Int),())))
 (ah (iV (x.2.1.1,())) (fun(y3:Sb×Sb×Unit)=>ah (aj (nt (cc y3.1 ([]:List (UInt8))))
 (ah (gj (x.1,(y3.1,()))) (fun(y4:Int×Unit)=>some (aY y4.1 (0:Int))))
 (some false)) (fun(y4:Bool)=>aj y4
 (some (([]:List bu),((3:Int),())))
 (ah (mw (x.1,(y3.1,()))) (fun(y5:Bool×Unit)=>aj (nt y5.1)
 (some (([]:List bu),((12:Int),())))
 (ah (gj (x.1,(x.2.1.1,()))) (fun(y6:Int×Unit)=>ah (aj (cO (0:Int) y6.1)
 (ah (@idx bu x.1 y6.1) (fun(y7:Sb×Int×Int×Sb×Sb×Unit)=>some (bC y7.2.1 (2:Int))))
 (some false)) (fun(y7:Bool)=>ah (aj (aj y7
 (bC x.2.1.2.1 (2:Int))
 false)
 (aj (inside (0:Int) y6.1 (@len bu x.1))
 (aj (fits (plus (@len bu ([]:List bu)) (@len bu (@sub bu x.1 (0:Int) (minus y6.1 (0:Int))))))
 (aj (inside (aI IntKind.i64 y6.1 (1:Int)) (@len bu x.1) (@len bu x.1))
 (aj (fits (plus (@len bu (@app bu ([]:List bu) (@sub bu x.1 (0:Int) (minus y6.1 (0:Int))))) (@len bu (@sub bu x.1 (aI IntKind.i64 y6.1 (1:Int)) (minus (@len bu x.1) (aI IntKind.i64 y6.1 (1:Int)))))))
 (some ((@app bu (@app bu ([]:List bu) (@sub bu x.1 (0:Int) (minus y6.1 (0:Int)))) (@sub bu x.1 (aI IntKind.i64 y6.1 (1:Int)) (minus (@len bu x.1) (aI IntKind.i64 y6.1 (1:Int)))),()),()))
 none)
 none)
 none)
 none)
 (ah (aj (cO (0:Int) y6.1)
 (ah (iA (x.1,(x.2.1.1,(true,())))) (fun(y8:(List bu)×Unit)=>some ((y8.1,()),())))
 (some ((x.1,()),()))) (fun(y8:((List bu)×Unit)×Unit)=>some ((y8.1.1,()),())))) (fun(y8:((List bu)×Unit)×Unit)=>aj (cO (64:Int) (@len bu y8.1.1))
 (some (([]:List bu),((5:Int),())))
 (ah (Loop (jy x y8) (((0:Int),()),())) (fun(y9:(Int×Unit)×Unit)=>aj (inside (0:Int) y9.1.1 (@len bu y8.1.1))
 (aj (fits (plus (@len bu ([]:List bu)) (@len bu (@sub bu y8.1.1 (0:Int) (minus y9.1.1 (0:Int))))))
 (aj (fits (plus (@len bu (@app bu ([]:List bu) (@sub bu y8.1.1 (0:Int) (minus y9.1.1 (0:Int))))) (@len bu ([x.2.1]:List bu))))
 (aj (inside y9.1.1 (@len bu y8.1.1) (@len bu y8.1.1))
 (aj (fits (plus (@len bu (@app bu (@app bu ([]:List bu) (@sub bu y8.1.1 (0:Int) (minus y9.1.1 (0:Int)))) ([x.2.1]:List bu))) (@len bu (@sub bu y8.1.1 y9.1.1 (minus (@len bu y8.1.1) y9.1.1)))))
 (some (@app bu (@app bu (@app bu ([]:List bu) (@sub bu y8.1.1 (0:Int) (minus y9.1.1 (0:Int)))) ([x.2.1]:List bu)) (@sub bu y8.1.1 y9.1.1 (minus (@len bu y8.1.1) y9.1.1)),((0:Int),())))
 none)
 none)
 none)
 none)
 none)))))))))))))
end Go.Ge
namespace Go.Ge
set_option linter.unusedSectionVars false
variable [Lp]
set_option linter.unusedVariables false
set_option maxRecDepth 100000
abbrev zM:=(Sb×Int×Int×Sb×Sb×Unit)
noncomputable def tw(x:(List zM)×Sb×Unit):Option (zM×Bool×Unit) :=
 ah (gj (x.1,(x.2.1,()))) (fun(y1:Int×Unit)=>ah (jX (x.1,())) (fun(y2:Bool×Unit)=>aj (aj (nt (nt y2.1))
 (aY y1.1 (0:Int))
 true)
 (some ((([]:List (UInt8)),((0:Int),((0:Int),(([]:List (UInt8)),(([]:List (UInt8)),()))))),(false,())))
 (ah (@idx zM x.1 y1.1) (fun(y3:Sb×Int×Int×Sb×Sb×Unit)=>some (y3,(true,()))))))
noncomputable def qe(x:(List zM)×Sb×Unit):Option ((List zM)×Unit) :=
 ah (jX (x.1,())) (fun(y1:Bool×Unit)=>aj (nt y1.1)
 (some (([]:List zM),()))
 (ah (iA (x.1,(x.2.1,(true,())))) (fun(y2:(List zM)×Unit)=>some (y2.1,()))))
noncomputable def rE(x:(List zM)×Sb×Unit):Option ((List zM)×Unit) :=
 ah (jX (x.1,())) (fun(y1:Bool×Unit)=>aj (nt y1.1)
 (some (([]:List zM),()))
 (ah (iA (x.1,(x.2.1,(false,())))) (fun(y2:(List zM)×Unit)=>some (y2.1,()))))
end Go.Ge
namespace Go.Ge
set_option linter.unusedSectionVars false
variable [Lp]
set_option linter.unusedVariables false
set_option maxRecDepth 100000
end Go.Ge
namespace Go.Ge
set_option linter.unusedSectionVars false
variable [Lp]
set_option linter.unusedVariables false
set_option maxRecDepth 100000
abbrev dB:=(Sb×Int×Int×Sb×Sb×Unit)
abbrev cN:=((Sb×Int×Int×Int×Int×Int×Int×Sb×Unit)×Sb×Unit)
abbrev aaJ:=((Sb×Unit)⊕((Sb×Unit)⊕(Unit⊕((dB×Unit)⊕Unit))))
abbrev sI:=((List dB)×(List dB)×Int×Sb×Int×Unit)
abbrev zN:=(Bool×Int×Unit)
abbrev CF:=(Sb×Int×Int×Int×Int×Int×Int×Sb×Unit)
abbrev aeo:=((List dB)×Int×(List dB)×Int×Unit)
abbrev ir:=(Sb×Bool×Int×Unit)
abbrev qf:=((List dB)×(List dB)×Int×Int×Unit)
abbrev sJ:=((List dB)×Int×Unit)
abbrev oD:=(Sb×(List cN)×Bool×Unit×Unit)
abbrev oE:=(Nat×zN×Unit)
abbrev adg:=(Bool×(List dB)×Int×Unit)
abbrev adh:=((Sb×Unit)⊕(Unit⊕((dB×Unit)⊕Unit)))
abbrev adi:=((List UInt8)×(Int×(Int×((List UInt8)×((List UInt8)×Unit)))))
abbrev adj:=((List aaJ)×Bool×Unit×Int×Unit)
abbrev rF:=(Bool×Sb×Int×Unit)
abbrev oF:=(zN×Unit)
abbrev adk:=(Sb×Unit)
abbrev adl:=(Unit×Sb×Int×Unit)
noncomputable def qg(x:cN×Sb×Unit):Option (dB×Unit) :=
 some ((x.2.1,(x.1.1.2.1,(x.1.1.2.2.1,(x.1.2.1,(x.1.1.2.2.2.2.2.2.2.1,()))))),())
noncomputable def fS(y1:(List Sb)×Unit)(y2:rF×Unit):Option ((rF×Unit)⊕(Nat×rF×Unit)) :=
 aj (aY y2.1.2.2.1 (@len Sb y1.1))
 (ah (@idx Sb y1.1 y2.1.2.2.1) (fun(y3:List (UInt8))=>ah (mO (y2.1.2.1,(y3,()))) (fun(y4:Sb×Unit)=>ah (jN ((y4.1,((2:Int),((0:Int),(([]:List (UInt8)),(([]:List (UInt8)),()))))),())) (fun(y5:Bool×Unit)=>aj (nt y5.1)
 (some (Sum.inr ((1:Nat),((false,(y4.1,(y2.1.2.2.1,()))),())):((rF×Unit))⊕((Nat×rF×Unit))))
 (some (Sum.inl ((y2.1.1,(y4.1,(aI IntKind.i64 y2.1.2.2.1 (1:Int),()))),()):((rF×Unit))⊕((Nat×rF×Unit))))))))
 (some (Sum.inr ((0:Nat),((y2.1.1,(y2.1.2.1,(y2.1.2.2.1,()))),())):((rF×Unit))⊕((Nat×rF×Unit))))
noncomputable def jz(x:Sb×Unit):Option (Bool×Unit) :=
 ah (dN (x.1,())) (fun(y1:(List Sb)×Unit)=>ah (Loop (fS y1) ((false,(([]:List (UInt8)),((0:Int),()))),())) (fun(y2:Nat×rF×Unit)=>aj (fB y2.1 (0:Nat))
 (some (nt (cc x.1 ([]:List (UInt8))),()))
 (some (y2.2.1.1,()))))
noncomputable def mX(x:cN×Unit):Option (Int×Sb×Bool×Unit) :=
 ah (rj (x.1.1.1,())) (fun(y1:Sb×Int×Unit)=>aj (nt (bC y1.2.1 (0:Int)))
 (some ((0:Int),(([]:List (UInt8)),(false,()))))
 (ah (iV (y1.1,())) (fun(y2:Sb×Sb×Unit)=>ah (p4 (y2.2.1,())) (fun(y3:Int×Sb×Unit)=>aj (bC y3.1 (1:Int))
 (ah (mO (y2.1,(y3.2.1,()))) (fun(y4:Sb×Unit)=>ah (aj (aj (bC x.1.1.2.1 (1:Int))
 (cc x.1.2.1 ([]:List (UInt8)))
 false)
 (ah (jz (y4.1,())) (fun(y5:Bool×Unit)=>some y5.1))
 (some false)) (fun(y5:Bool)=>some (y3.1,(y4.1,(y5,()))))))
 (aj (bC y3.1 (2:Int))
 (ah (aj (aj (bC x.1.1.2.1 (1:Int))
 (cc x.1.2.1 ([]:List (UInt8)))
 false)
 (ah (aj (nt (cc y2.1 ([]:List (UInt8))))
 (ah (jz (y2.1,())) (fun(y4:Bool×Unit)=>some y4.1))
 (some true)) (fun(y4:Bool)=>some y4))
 (some false)) (fun(y4:Bool)=>some (y3.1,(y2.1,(y4,())))))
 (aj (bC y3.1 (0:Int))
 (ah (aj (nt (aj (cc y1.1 ([]:List (UInt8)))
 (bC x.1.1.2.1 (2:Int))
 false))
 (ah (qg (x.1,(y1.1,()))) (fun(y4:dB×Unit)=>ah (jN (y4.1,())) (fun(y5:Bool×Unit)=>ah (aj y5.1
 (ah (jz (y1.1,())) (fun(y6:Bool×Unit)=>some y6.1))
 (some false)) (fun(y6:Bool)=>some y6))))
 (some true)) (fun(y4:Bool)=>some (y3.1,(y1.1,(y4,())))))
 (some ((0:Int),(([]:List (UInt8)),(false,()))))))))))
noncomputable def mY(x:(List cN)×Unit)(y1:zN×Unit):Option (oF⊕oE) :=
 aj (aY y1.1.2.1 (@len cN x.1))
 (ah (@idx cN x.1 y1.1.2.1) (fun(y2:CF×Sb×Unit)=>ah (mX (y2,())) (fun(y3:Int×Sb×Bool×Unit)=>aj (nt y3.2.2.1)
 (some (Sum.inr ((1:Nat),((false,(y1.1.2.1,())),())):(oF)⊕(oE)))
 (some (Sum.inl ((y1.1.1,(aI IntKind.i64 y1.1.2.1 (1:Int),())),()):(oF)⊕(oE))))))
 (some (Sum.inr ((0:Nat),((y1.1.1,(y1.1.2.1,())),())):(oF)⊕(oE)))
noncomputable def nU(x:(List cN)×Unit):Option (Bool×Unit) :=
 ah (Loop (mY x) ((false,((0:Int),())),())) (fun(y1:Nat×zN×Unit)=>aj (fB y1.1 (0:Nat))
 (some (true,()))
 (some (y1.2.1.1,())))
noncomputable def kL(y1:(List Sb)×Unit)(y2:sI×Unit):Option ((sI×Unit)⊕(Nat×sI×Unit)) :=
 aj (aY (aI IntKind.i64 y2.1.2.2.2.2.1 (1:Int)) (@len Sb y1.1))
 (ah (@idx Sb y1.1 y2.1.2.2.2.2.1) (fun(y3:List (UInt8))=>ah (mO (y2.1.2.2.2.1,(y3,()))) (fun(y4:Sb×Unit)=>ah (tw (y2.1.1,(y4.1,()))) (fun(y5:dB×Bool×Unit)=>aj (aj y5.2.1
 (bC y5.1.2.1 (2:Int))
 false)
 (some (Sum.inl ((y2.1.1,(y2.1.2.1,(y2.1.2.2.1,(y4.1,(aI IntKind.i64 y2.1.2.2.2.2.1 (1:Int),()))))),()):((sI×Unit))⊕((Nat×sI×Unit))))
 (ah (mz (y2.1.1,((y4.1,((2:Int),((493:Int),(([]:List (UInt8)),(([]:List (UInt8)),()))))),()))) (fun(y6:(List dB)×Int×Unit)=>aj (nt (bC y6.2.1 (0:Int)))
 (some (Sum.inr ((1:Nat),((y2.1.1,(([]:List dB),(y6.2.1,(y4.1,(y2.1.2.2.2.2.1,()))))),())):((sI×Unit))⊕((Nat×sI×Unit))))
 (some (Sum.inl ((y6.1,(y2.1.2.1,(y2.1.2.2.1,(y4.1,(aI IntKind.i64 y2.1.2.2.2.2.1 (1:Int),()))))),()):((sI×Unit))⊕((Nat×sI×Unit))))))))))
 (some (Sum.inr ((0:Nat),((y2.1.1,(y2.1.2.1,(y2.1.2.2.1,(y2.1.2.2.2.1,(y2.1.2.2.2.2.1,()))))),())):((sI×Unit))⊕((Nat×sI×Unit))))
noncomputable def tC(x:(List dB)×Sb×Unit):Option sJ :=
 ah (dN (x.2.1,())) (fun(y1:(List Sb)×Unit)=>ah (Loop (kL y1) ((x.1,(([]:List dB),((0:Int),(([]:List (UInt8)),((0:Int),()))))),())) (fun(y2:Nat×sI×Unit)=>aj (fB y2.1 (0:Nat))
 (some (y2.2.1.1,((0:Int),())))
 (some (y2.2.1.2.1,(y2.2.1.2.2.1,())))))
noncomputable def mA(x:(List dB)×(List cN)×Unit)(y3:sJ×Unit):Option ((sJ×Unit)⊕(sJ×Unit)) :=
 @ep (sJ×Unit) (aj (aY y3.1.2.1 (@len cN x.2.1))
 (ah (@idx cN x.2.1 y3.1.2.1) (fun(y4:CF×Sb×Unit)=>ah (mX (y4,())) (fun(y5:Int×Sb×Bool×Unit)=>ah (aj (bC y5.1 (1:Int))
 (ah (qe (y3.1.1,(y5.2.1,()))) (fun(y6:(List dB)×Unit)=>some ((y6.1,()),())))
 (ah (aj (bC y5.1 (2:Int))
 (ah (rE (y3.1.1,(y5.2.1,()))) (fun(y6:(List dB)×Unit)=>some ((y6.1,()),())))
 (some ((y3.1.1,()),()))) (fun(y6:((List dB)×Unit)×Unit)=>some ((y6.1.1,()),())))) (fun(y6:((List dB)×Unit)×Unit)=>some (Sum.inl ((y6.1.1,(aI IntKind.i64 y3.1.2.1 (1:Int),())),()):((sJ×Unit))⊕((Nat×sJ×Unit)))))))
 (some (Sum.inr ((0:Nat),((y3.1.1,(y3.1.2.1,())),())):((sJ×Unit))⊕((Nat×sJ×Unit)))))
noncomputable def mB(x:(List dB)×(List cN)×Unit)(y4:qf×Unit):Option ((qf×Unit)⊕(Nat×qf×Unit)) :=
 aj (aY y4.1.2.2.2.1 (@len cN x.2.1))
 (ah (@idx cN x.2.1 y4.1.2.2.2.1) (fun(y5:CF×Sb×Unit)=>ah (mX (y5,())) (fun(y6:Int×Sb×Bool×Unit)=>aj (aj (nt (nt (bC y6.1 (0:Int))))
 (cc y6.2.1 ([]:List (UInt8)))
 true)
 (some (Sum.inl ((y4.1.1,(y4.1.2.1,(y4.1.2.2.1,(aI IntKind.i64 y4.1.2.2.2.1 (1:Int),())))),()):((qf×Unit))⊕((Nat×qf×Unit))))
 (ah (tC (y4.1.1,(y6.2.1,()))) (fun(y7:(List dB)×Int×Unit)=>aj (nt (bC y7.2.1 (0:Int)))
 (some (Sum.inr ((1:Nat),((y4.1.1,(([]:List dB),(y7.2.1,(y4.1.2.2.2.1,())))),())):((qf×Unit))⊕((Nat×qf×Unit))))
 (ah (@idx cN x.2.1 y4.1.2.2.2.1) (fun(y8:CF×Sb×Unit)=>ah (qg (y8,(y6.2.1,()))) (fun(y9:dB×Unit)=>ah (mz (y7.1,(y9.1,()))) (fun(tf:(List dB)×Int×Unit)=>aj (nt (bC tf.2.1 (0:Int)))
 (some (Sum.inr ((1:Nat),((y4.1.1,(([]:List dB),(tf.2.1,(y4.1.2.2.2.1,())))),())):((qf×Unit))⊕((Nat×qf×Unit))))
 (some (Sum.inl ((tf.1,(y4.1.2.1,(y4.1.2.2.1,(aI IntKind.i64 y4.1.2.2.2.1 (1:Int),())))),()):((qf×Unit))⊕((Nat×qf×Unit)))))))))))))
 (some (Sum.inr ((0:Nat),((y4.1.1,(y4.1.2.1,(y4.1.2.2.1,(y4.1.2.2.2.1,())))),())):((qf×Unit))⊕((Nat×qf×Unit))))
noncomputable def vj(x:(List dB)×(List cN)×Unit):Option sJ :=
 ah (jX (x.1,())) (fun(y1:Bool×Unit)=>aj (nt y1.1)
 (some (([]:List dB),((1:Int),())))
 (ah (nU (x.2.1,())) (fun(y2:Bool×Unit)=>aj (nt y2.1)
 (some (([]:List dB),((10:Int),())))
 (ah (Loop (mA x) ((x.1,((0:Int),())),())) (fun(y3:sJ×Unit)=>ah (Loop (mB x) ((y3.1.1,(([]:List dB),((0:Int),((0:Int),())))),())) (fun(y4:Nat×qf×Unit)=>aj (fB y4.1 (0:Nat))
 (some (y4.2.1.1,((0:Int),())))
 (some (y4.2.1.2.1,(y4.2.1.2.2.1,())))))))))
noncomputable def iB(x:Sb×Unit)(y1:zN×Unit):Option (oF⊕oE) :=
 aj (aY y1.1.2.1 (@len UInt8 x.1))
 (ah (@idx UInt8 x.1 y1.1.2.1) (fun(y2:UInt8)=>aj (nt (bC (u8 y2) (0:Int)))
 (some (Sum.inr ((1:Nat),((false,(y1.1.2.1,())),())):(oF)⊕(oE)))
 (some (Sum.inl ((y1.1.1,(aI IntKind.i64 y1.1.2.1 (1:Int),())),()):(oF)⊕(oE)))))
 (some (Sum.inr ((0:Nat),((y1.1.1,(y1.1.2.1,())),())):(oF)⊕(oE)))
noncomputable def tD(x:Sb×Unit):Option (Bool×Unit) :=
 ah (Loop (iB x) ((false,((0:Int),())),())) (fun(y1:Nat×zN×Unit)=>aj (fB y1.1 (0:Nat))
 (some (bC (@len UInt8 x.1) (512:Int),()))
 (some (y1.2.1.1,())))
noncomputable def iC(x:Sb×Unit)(y2:zN×Unit):Option (oF⊕oE) :=
 aj (aY y2.1.2.1 (@len UInt8 x.1))
 (ah (@idx UInt8 x.1 y2.1.2.1) (fun(y3:UInt8)=>aj (nt (bC (u8 y3) (0:Int)))
 (some (Sum.inr ((1:Nat),((false,(y2.1.2.1,())),())):(oF)⊕(oE)))
 (some (Sum.inl ((y2.1.1,(aI IntKind.i64 y2.1.2.1 (1:Int),())),()):(oF)⊕(oE)))))
 (some (Sum.inr ((0:Nat),((y2.1.1,(y2.1.2.1,())),())):(oF)⊕(oE)))
noncomputable def tE(x:Sb×Unit):Option (Bool×Unit) :=
 ah (aj (nt (aY (@len UInt8 x.1) (1024:Int)))
 (aj (bC (512:Int) (0:Int))
 none
 (some (nt (bC (ij (@len UInt8 x.1) (512:Int)) (0:Int)))))
 (some true)) (fun(y1:Bool)=>aj y1
 (some (false,()))
 (ah (Loop (iC x) ((false,((0:Int),())),())) (fun(y2:Nat×zN×Unit)=>aj (fB y2.1 (0:Nat))
 (some (true,()))
 (some (y2.2.1.1,())))))
noncomputable def fT(x:Sb×Unit)(y1:(Int×Unit)×Unit):Option (((Int×Unit)×Unit)⊕((Int×Unit)×Unit)) :=
 @ep ((Int×Unit)×Unit) (ah (aj (aY y1.1.1 (@len UInt8 x.1))
 (ah (@idx UInt8 x.1 y1.1.1) (fun(y2:UInt8)=>some (cO (48:Int) (u8 y2))))
 (some false)) (fun(y2:Bool)=>ah (aj y2
 (ah (@idx UInt8 x.1 y1.1.1) (fun(y3:UInt8)=>some (cO (u8 y3) (55:Int))))
 (some false)) (fun(y3:Bool)=>aj y3
 (some (Sum.inl ((aI IntKind.i64 y1.1.1 (1:Int),()),()):(((Int×Unit)×Unit))⊕((Nat×(Int×Unit)×Unit))))
 (some (Sum.inr ((0:Nat),((y1.1.1,()),())):(((Int×Unit)×Unit))⊕((Nat×(Int×Unit)×Unit)))))))
noncomputable def fU(x:Sb×Unit)(y2:(Int×Int×Unit)×Unit):Option (((Int×Int×Unit)×Unit)⊕(Nat×(Int×Int×Unit)×Unit)) :=
 aj (aY y2.1.2.1 (@len UInt8 x.1))
 (ah (@idx UInt8 x.1 y2.1.2.1) (fun(y3:UInt8)=>ah (aj (nt (bC (u8 y3) (0:Int)))
 (ah (@idx UInt8 x.1 y2.1.2.1) (fun(y4:UInt8)=>some (nt (bC (u8 y4) (32:Int)))))
 (some false)) (fun(y4:Bool)=>aj y4
 (some (Sum.inr ((1:Nat),(((-1:Int),(y2.1.2.1,())),())):(((Int×Int×Unit)×Unit))⊕((Nat×(Int×Int×Unit)×Unit))))
 (some (Sum.inl ((y2.1.1,(aI IntKind.i64 y2.1.2.1 (1:Int),())),()):(((Int×Int×Unit)×Unit))⊕((Nat×(Int×Int×Unit)×Unit)))))))
 (some (Sum.inr ((0:Nat),((y2.1.1,(y2.1.2.1,())),())):(((Int×Int×Unit)×Unit))⊕((Nat×(Int×Int×Unit)×Unit))))
noncomputable def eS(x:Sb×Unit):Option (Int×Unit) :=
 ah (Loop (fT x) (((0:Int),()),())) (fun(y1:(Int×Unit)×Unit)=>aj (bC y1.1.1 (@len UInt8 x.1))
 (some ((-1:Int),()))
 (ah (Loop (fU x) (((0:Int),(y1.1.1,())),())) (fun(y2:Nat×(Int×Int×Unit)×Unit)=>aj (fB y2.1 (0:Nat))
 (aj (inside (0:Int) y1.1.1 (@len UInt8 x.1))
 (ah (lq (@sub UInt8 x.1 (0:Int) (minus y1.1.1 (0:Int)),())) (fun(y3:Int×Bool×Unit)=>aj (nt y3.2.1)
 (some ((-1:Int),()))
 (some (y3.1,()))))
 none)
 (some (y2.2.1.1,())))))
noncomputable def ek(x:Sb×Unit)(y3:ir×Unit):Option ((ir×Unit)⊕(Nat×ir×Unit)) :=
 aj (aY y3.1.2.2.1 (@len UInt8 x.1))
 (ah (@idx UInt8 x.1 y3.1.2.2.1) (fun(y4:UInt8)=>aj (nt (bC (u8 y4) (0:Int)))
 (some (Sum.inr ((1:Nat),((([]:List (UInt8)),(false,(y3.1.2.2.1,()))),())):((ir×Unit))⊕((Nat×ir×Unit))))
 (some (Sum.inl ((y3.1.1,(y3.1.2.1,(aI IntKind.i64 y3.1.2.2.1 (1:Int),()))),()):((ir×Unit))⊕((Nat×ir×Unit))))))
 (some (Sum.inr ((0:Nat),((y3.1.1,(y3.1.2.1,(y3.1.2.2.1,()))),())):((ir×Unit))⊕((Nat×ir×Unit))))
noncomputable def cZ(x:Sb×Unit)(y1:ir×Unit):Option ((ir×Unit)⊕(Nat×ir×Unit)) :=
 aj (aY y1.1.2.2.1 (@len UInt8 x.1))
 (ah (@idx UInt8 x.1 y1.1.2.2.1) (fun(y2:UInt8)=>aj (bC (u8 y2) (0:Int))
 (ah (Loop (ek x) ((y1.1.1,(y1.1.2.1,(y1.1.2.2.1,()))),())) (fun(y3:Nat×ir×Unit)=>aj (fB y3.1 (0:Nat))
 (aj (inside (0:Int) y1.1.2.2.1 (@len UInt8 x.1))
 (some (Sum.inr ((1:Nat),((@sub UInt8 x.1 (0:Int) (minus y1.1.2.2.1 (0:Int)),(true,(y1.1.2.2.1,()))),())):((ir×Unit))⊕((Nat×ir×Unit))))
 none)
 (some (Sum.inr ((1:Nat),((y3.2.1.1,(y3.2.1.2.1,(y1.1.2.2.1,()))),())):((ir×Unit))⊕((Nat×ir×Unit))))))
 (some (Sum.inl ((y1.1.1,(y1.1.2.1,(aI IntKind.i64 y1.1.2.2.1 (1:Int),()))),()):((ir×Unit))⊕((Nat×ir×Unit))))))
 (some (Sum.inr ((0:Nat),((y1.1.1,(y1.1.2.1,(y1.1.2.2.1,()))),())):((ir×Unit))⊕((Nat×ir×Unit))))
noncomputable def mZ(x:Sb×Unit):Option (Sb×Bool×Unit) :=
 ah (Loop (cZ x) ((([]:List (UInt8)),(false,((0:Int),()))),())) (fun(y1:Nat×ir×Unit)=>aj (fB y1.1 (0:Nat))
 (some (x.1,(true,())))
 (some (y1.2.1.1,(y1.2.1.2.1,()))))
noncomputable def nc(x:Sb×Unit):Option (CF×Int×Unit) :=
 ah (aj (nt (nt (bC (@len UInt8 x.1) (512:Int))))
 (aj (inside (257:Int) (265:Int) (@len UInt8 x.1))
 (some (nt (cc (@sub UInt8 x.1 (257:Int) (minus (265:Int) (257:Int))) ([(117:UInt8),(115:UInt8),(116:UInt8),(97:UInt8),(114:UInt8),(0:UInt8),(48:UInt8),(48:UInt8)]:List (UInt8)))))
 none)
 (some true)) (fun(y1:Bool)=>ah (aj (nt y1)
 (aj (inside (148:Int) (156:Int) (@len UInt8 x.1))
 (ah (eS (@sub UInt8 x.1 (148:Int) (minus (156:Int) (148:Int)),())) (fun(y2:Int×Unit)=>ah (u7 (x.1,())) (fun(y3:Int×Unit)=>some (nt (bC y2.1 y3.1)))))
 none)
 (some true)) (fun(y2:Bool)=>aj y2
 (some ((([]:List (UInt8)),((0:Int),((0:Int),((0:Int),((0:Int),((0:Int),((0:Int),(([]:List (UInt8)),())))))))),((2:Int),())))
 (aj (inside (0:Int) (100:Int) (@len UInt8 x.1))
 (ah (mZ (@sub UInt8 x.1 (0:Int) (minus (100:Int) (0:Int)),())) (fun(y3:Sb×Bool×Unit)=>aj (inside (157:Int) (257:Int) (@len UInt8 x.1))
 (ah (mZ (@sub UInt8 x.1 (157:Int) (minus (257:Int) (157:Int)),())) (fun(y4:Sb×Bool×Unit)=>aj (inside (345:Int) (500:Int) (@len UInt8 x.1))
 (ah (mZ (@sub UInt8 x.1 (345:Int) (minus (500:Int) (345:Int)),())) (fun(y5:Sb×Bool×Unit)=>aj (inside (100:Int) (108:Int) (@len UInt8 x.1))
 (ah (eS (@sub UInt8 x.1 (100:Int) (minus (108:Int) (100:Int)),())) (fun(y6:Int×Unit)=>aj (inside (108:Int) (116:Int) (@len UInt8 x.1))
 (ah (eS (@sub UInt8 x.1 (108:Int) (minus (116:Int) (108:Int)),())) (fun(y7:Int×Unit)=>aj (inside (116:Int) (124:Int) (@len UInt8 x.1))
 (ah (eS (@sub UInt8 x.1 (116:Int) (minus (124:Int) (116:Int)),())) (fun(y8:Int×Unit)=>aj (inside (124:Int) (136:Int) (@len UInt8 x.1))
 (ah (eS (@sub UInt8 x.1 (124:Int) (minus (136:Int) (124:Int)),())) (fun(y9:Int×Unit)=>aj (inside (136:Int) (148:Int) (@len UInt8 x.1))
 (ah (eS (@sub UInt8 x.1 (136:Int) (minus (148:Int) (136:Int)),())) (fun(tf:Int×Unit)=>ah (aj (nt (cc y5.1 ([]:List (UInt8))))
 (aj (fits (plus (@len UInt8 y5.1) (@len UInt8 ([(47:UInt8)]:List (UInt8)))))
 (aj (fits (plus (@len UInt8 (@app UInt8 y5.1 ([(47:UInt8)]:List (UInt8)))) (@len UInt8 y3.1)))
 (some ((),((@app UInt8 (@app UInt8 y5.1 ([(47:UInt8)]:List (UInt8))) y3.1,((0:Int),(y6.1,(y7.1,(y8.1,(y9.1,(tf.1,(([]:List (UInt8)),())))))))),())))
 none)
 none)
 (some ((),((y3.1,((0:Int),(y6.1,(y7.1,(y8.1,(y9.1,(tf.1,(([]:List (UInt8)),())))))))),())))) (fun(oc:Unit×CF×Unit)=>ah (@idx UInt8 x.1 (156:Int)) (fun(gv:UInt8)=>ah (aj (nt (aj (nt (aj (nt (nt y3.2.1))
 (nt y4.2.1)
 true))
 (nt y5.2.1)
 true))
 (ah (r7 (((aj (((aj (bC (u8 gv) (48:Int))
 ((bC (u8 gv) (48:Int),()),())
 ((bC (u8 gv) (0:Int),()),())).1).1)
 ((),((oc.2.1.1,((1:Int),oc.2.1.2.2)),()))
 ((),(((aj (bC (u8 gv) (53:Int))
 ((),((oc.2.1.1,((2:Int),oc.2.1.2.2)),()))
 ((),(((aj (bC (u8 gv) (50:Int))
 ((),((oc.2.1.1,((3:Int),(oc.2.1.2.2.1,(oc.2.1.2.2.2.1,(oc.2.1.2.2.2.2.1,(oc.2.1.2.2.2.2.2.1,(oc.2.1.2.2.2.2.2.2.1,(y4.1,oc.2.1.2.2.2.2.2.2.2.2)))))))),()))
 ((),(oc.2.1,()))).2).1,()))).2).1,()))).2).1,((256:Int),()))) (fun(fh:Bool×Unit)=>some (nt fh.1)))
 (some true)) (fun(fh:Bool)=>aj fh
 (some ((([]:List (UInt8)),((0:Int),((0:Int),((0:Int),((0:Int),((0:Int),((0:Int),(([]:List (UInt8)),())))))))),((2:Int),())))
 (some (((aj (((aj (bC (u8 gv) (48:Int))
 ((bC (u8 gv) (48:Int),()),())
 ((bC (u8 gv) (0:Int),()),())).1).1)
 ((),((oc.2.1.1,((1:Int),oc.2.1.2.2)),()))
 ((),(((aj (bC (u8 gv) (53:Int))
 ((),((oc.2.1.1,((2:Int),oc.2.1.2.2)),()))
 ((),(((aj (bC (u8 gv) (50:Int))
 ((),((oc.2.1.1,((3:Int),(oc.2.1.2.2.1,(oc.2.1.2.2.2.1,(oc.2.1.2.2.2.2.1,(oc.2.1.2.2.2.2.2.1,(oc.2.1.2.2.2.2.2.2.1,(y4.1,oc.2.1.2.2.2.2.2.2.2.2)))))))),()))
 ((),(oc.2.1,()))).2).1,()))).2).1,()))).2).1,((0:Int),()))))))))
 none))
 none))
 none))
 none))
 none))
 none))
 none))
 none)))
noncomputable def dV(y1:oD×(List cN)×Unit):Option ((oD×(List cN)×Unit)⊕(Nat×oD×(List cN)×Unit)) :=
 aj (cO (512:Int) (@len UInt8 y1.1.1))
 (aj (inside (0:Int) (512:Int) (@len UInt8 y1.1.1))
 (ah (tD (@sub UInt8 y1.1.1 (0:Int) (minus (512:Int) (0:Int)),())) (fun(y2:Bool×Unit)=>aj y2.1
 (ah (tE (y1.1.1,())) (fun(y3:Bool×Unit)=>some (Sum.inr ((1:Nat),((y1.1.1,(y1.2.1,(y3.1,((),())))),(y1.2.1,()))):((oD×(List cN)×Unit))⊕((Nat×oD×(List cN)×Unit)))))
 (aj (inside (0:Int) (512:Int) (@len UInt8 y1.1.1))
 (ah (nc (@sub UInt8 y1.1.1 (0:Int) (minus (512:Int) (0:Int)),())) (fun(y3:CF×Int×Unit)=>ah (aj (nt (aj (nt (nt (bC y3.2.1 (0:Int))))
 (aY (8192:Int) y3.1.2.2.2.2.2.1)
 true))
 (ah (kW (y3.1.2.2.2.2.2.1,())) (fun(y4:Int×Unit)=>some (aY (@len UInt8 y1.1.1) (aI IntKind.i64 (512:Int) y4.1))))
 (some true)) (fun(y4:Bool)=>aj (aj (nt y4)
 (cO (64:Int) (@len cN y1.2.1))
 true)
 (some (Sum.inr ((1:Nat),((y1.1.1,(y1.2.1,(false,((),())))),(y1.2.1,()))):((oD×(List cN)×Unit))⊕((Nat×oD×(List cN)×Unit))))
 (aj (inside (512:Int) (aI IntKind.i64 (512:Int) y3.1.2.2.2.2.2.1) (@len UInt8 y1.1.1))
 (aj (fits (plus (@len cN y1.2.1) (@len cN ([(y3.1,(@sub UInt8 y1.1.1 (512:Int) (minus (aI IntKind.i64 (512:Int) y3.1.2.2.2.2.2.1) (512:Int)),()))]:List cN))))
 (ah (kW (y3.1.2.2.2.2.2.1,())) (fun(y5:Int×Unit)=>aj (inside (aI IntKind.i64 (512:Int) y5.1) (@len UInt8 y1.1.1) (@len UInt8 y1.1.1))
 (some (Sum.inl ((@sub UInt8 y1.1.1 (aI IntKind.i64 (512:Int) y5.1) (minus (@len UInt8 y1.1.1) (aI IntKind.i64 (512:Int) y5.1)),(y1.1.2.1,(y1.1.2.2.1,((),())))),(@app cN y1.2.1 ([(y3.1,(@sub UInt8 y1.1.1 (512:Int) (minus (aI IntKind.i64 (512:Int) y3.1.2.2.2.2.2.1) (512:Int)),()))]:List cN),())):((oD×(List cN)×Unit))⊕((Nat×oD×(List cN)×Unit))))
 none))
 none)
 none))))
 none)))
 none)
 (some (Sum.inr ((0:Nat),((y1.1.1,(y1.1.2.1,(y1.1.2.2.1,((),())))),(y1.2.1,()))):((oD×(List cN)×Unit))⊕((Nat×oD×(List cN)×Unit))))
noncomputable def rG(x:Sb×Unit):Option ((List cN)×Bool×Unit) :=
 aj (aY (8192:Int) (@len UInt8 x.1))
 (some (([]:List cN),(false,())))
 (ah (Loop (dV) ((x.1,(([]:List cN),(false,((),())))),(([]:List cN),()))) (fun(y1:Nat×oD×(List cN)×Unit)=>aj (fB y1.1 (0:Nat))
 (some (y1.2.2.1,(false,())))
 (some (y1.2.1.2.1,(y1.2.1.2.2.1,())))))
noncomputable def jY(x:Sb×Unit):Option ((List cN)×Int×Unit) :=
 ah (rG (x.1,())) (fun(y1:(List cN)×Bool×Unit)=>aj (nt y1.2.1)
 (some (([]:List cN),((10:Int),())))
 (some (y1.1,((0:Int),()))))
noncomputable def nV(x:Sb×Unit):Option (Int×Unit) :=
 ah (jY (x.1,())) (fun(y1:(List cN)×Int×Unit)=>ah (aj (nt (nt (bC y1.2.1 (0:Int))))
 (ah (nU (y1.1,())) (fun(y2:Bool×Unit)=>some (nt y2.1)))
 (some true)) (fun(y2:Bool)=>aj y2
 (some ((10:Int),()))
 (some ((0:Int),()))))
noncomputable def rH(x:(List dB)×Sb×Unit):Option sJ :=
 ah (jX (x.1,())) (fun(y1:Bool×Unit)=>aj (nt y1.1)
 (some (([]:List dB),((1:Int),())))
 (ah (nV (x.2.1,())) (fun(y2:Int×Unit)=>aj (nt (bC y2.1 (0:Int)))
 (some (([]:List dB),(y2.1,())))
 (ah (jY (x.2.1,())) (fun(y3:(List cN)×Int×Unit)=>ah (vj (x.1,(y3.1,()))) (fun(y4:(List dB)×Int×Unit)=>some (y4.1,(y4.2.1,()))))))))
end Go.Ge
