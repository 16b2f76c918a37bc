/- Plain laws of what the functions compute: part 3. -/
import Derived.Test.YtpcimoekpbilgaaGreatDoorPlB
/- Clean paths in plain words. -/
namespace Go.Ge
set_option linter.unusedVariables false
set_option linter.unusedSimpArgs false

theorem refJoin_val (l:List (List UInt8)) (hl:l.length≤1048576) (hx:(joinS l).length≤1048576):P_ref07_join (l,())=some (joinS l,()):=by
  unfold P_ref07_join
  -- what has been put together
  have pre:∀ (a b:List (List UInt8)),a ≠ []→b ≠ []→joinS (a ++ b)=joinS a ++ 47 :: joinS b:=by
    intro a
    induction a with
    | nil=>intro b h;exact absurd rfl h
    | cons x r ih =>
      intro b _ hb
      cases r with
      | nil =>
        cases b with
        | nil=>exact absurd rfl hb
        | cons y b=>rfl
      | cons y r =>
        have:=ih b (by simp) hb
        rw [List.cons_append,List.cons_append,joinS,joinS,← List.cons_append,this]
        simp
  have mono:∀ i,(joinS (l.take i)).length≤(joinS l).length:=by
    intro i
    by_cases ha:l.take i=[]
    · rw [ha];simp [joinS]
    · by_cases hb : l.drop i = []
      · rw [show l.take i=l from by have:=List.take_append_drop i l;rw [hb,List.append_nil] at this;exact this];exact Nat.le_refl _
      · have:=pre _ _ ha hb
        rw [List.take_append_drop] at this
        rw [this,List.length_append];omega
  have step:∀ i x,l[i]? = some x→joinS (l.take (i + 1))=(if 0 < i then joinS (l.take i) ++ [47] else joinS (l.take i)) ++ x:=by
    intro i x hx
    have e:l.take (i + 1)=l.take i ++ [x]:=by rw [List.take_add_one,hx];rfl
    rw [e]
    cases i with
    | zero=>rfl
    | succ i =>
      rw [if_pos (by omega),pre _ _ (by have:=getElem?_lt hx;intro q;have:=congrArg List.length q;rw [List.length_take] at this;simp only [List.length_nil] at this;omega) (by simp)]
      simp [joinS]
  have key:=loop_seq (f:=P_ref07_join_L0 (l,())) (r:=((joinS l,((l.length:Int),())),())) l.length (fun i=>((joinS (l.take i),((i:Int),())),())) (fun i hi=>by
      obtain ⟨x,hxx⟩:∃ x,l[i]? = some x:=⟨_,List.getElem?_eq_getElem hi⟩
      have hs:=step i x hxx
      have hb:=mono (i + 1)
      rw [hs] at hb
      unfold P_ref07_join_L0
      dsimp only
      rw [ltI_len_true hi,sel_true]
      by_cases h0:0 < i
      · rw [if_pos h0] at hs hb
        rw [List.length_append,List.length_append] at hb
        simp only [List.length_cons,List.length_nil] at hb
        rw [ltI_true (by omega),sel_true,fits_len2 (by simp only [List.length_cons,List.length_nil];omega),sel_true,obind_some,idx_some' hxx,obind_some]
        dsimp only
        rw [fits_len2 (by simp only [app_eq,List.length_append,List.length_cons,List.length_nil];omega),sel_true,iadd_one (by omega),hs]
        rfl
      · rw [if_neg h0] at hs hb
        rw [List.length_append] at hb
        rw [ltI_false (by omega),sel_false,obind_some,idx_some' hxx,obind_some]
        dsimp only
        rw [fits_len2 (by omega),sel_true,iadd_one (by omega),hs]
        rfl) (by
      unfold P_ref07_join_L0
      dsimp only
      rw [ltI_len_end,sel_false,List.take_length]
      rfl)
  have key':Loop (P_ref07_join_L0 (l,())) ((([]:List UInt8),((0:Int),())),())=some ((joinS l,((l.length:Int),())),()):=key
  rw [key',obind_some]

def isNm (s:List UInt8):Bool:=decide (s ≠ [46]∧s ≠ [46,46]∧1≤s.length∧s.length≤32∧0 ∉ s)

theorem indexByte_nul (s:List UInt8):decide (Lib.indexByte s 0 < 0)=decide (0 ∉ s):=by
 rw [index_nul]
 by_cases h:noNul s
 ·rw [decide_eq_true h,decide_eq_true]
  intro hm;exact h 0 hm rfl
 ·rw [decide_eq_false h,decide_eq_false]
  intro hm;exact h fun x hx e=>hm (e ▸ hx)

theorem isName_val (s:List UInt8):P_paths_isName (s,())=some (isNm s,()):=by
  unfold P_paths_isName
  have one:∀ i:Nat,i < 2→P_paths_isName_L0 (s,()) ((false,((i:Int),())),())=if eqS s (if i=0 then [46] else [46,46])=true then some (.inr (1,((false,((i:Int),())),()))) else some (.inl ((false,(((i + 1:Nat):Int),())),())):=by
    intro i hi
    unfold P_paths_isName_L0
    dsimp only
    rw [ltI_true (by omega),sel_true,idx_nat]
    rcases (by omega:i=0∨i=1) with rfl | rfl
    · rw [show ([[46],[46,46]]:List (List UInt8))[0]? = some [46] from rfl,obind_some,sel_if];rfl
    · rw [show ([[46],[46,46]]:List (List UInt8))[1]? = some [46,46] from rfl,obind_some,sel_if];rfl
  by_cases h1:s=[46]
  · rw [Loop_eq,show ((false,((0:Int),())),())=((false,(((0:Nat):Int),())),()) from rfl,one 0 (by omega),if_pos (by rw [if_pos rfl];exact eqS_true h1)]
    subst h1;rfl
  · rw [Loop_eq, show ((false, ((0 : Int), ())), ()) = ((false, (((0 : Nat) : Int), ())), ()) from rfl, one 0 (by omega), if_neg (by rw [if_pos rfl, eqS_false h1]; simp)]
    by_cases h2:s=[46,46]
    · simp only [Option.bind]
      rw [Loop_eq,one 1 (by omega),if_pos (by rw [if_neg (by omega)];exact eqS_true h2)]
      subst h2;rfl
    · simp only [Option.bind]
      rw [Loop_eq,one 1 (by omega),if_neg (by rw [if_neg (by omega),eqS_false h2];simp)]
      simp only [Option.bind]
      rw [Loop_eq]
      have e:P_paths_isName_L0 (s,()) ((false,(((1 + 1:Nat):Int),())),())=some (.inr (0,((false,((2:Int),())),()))):=rfl
      rw [e]
      simp only [Option.bind]
      rw [obind_some]
      dsimp only
      rw [eqN_zero,sel_true]
      have el:leI 1 (len s)=decide (1≤s.length):=by unfold leI len;apply decide_eq_decide.2;omega
      have eh:leI (len s) 32=decide (s.length≤32):=leI_len 32 s
      rw [el,eh]
      have ei:P_strings_IndexByte (s,(0,()))=some (Lib.indexByte s 0,()):=rfl
      rw [ei,obind_some]
      dsimp only
      rw [show ltI (Lib.indexByte s 0) 0=decide (0 ∉ s) from indexByte_nul s]
      unfold isNm
      by_cases a:1≤s.length
      · by_cases b:s.length≤32
        · simp [a,b,sel,obind,h1,h2]
        · simp [a,b,sel,obind]
      · simp [a,sel,obind]

theorem refIsName_val (s:List UInt8) (hs:s.length≤1048576):P_ref07_isName (s,())=some (isNm s && decide (47 ∉ s),()):=by
  unfold P_ref07_isName
  have key:=loop_run (f:=P_ref07_isName_L0 (s,())) s (fun (_:Unit) i=>((false,((i:Int),())),()))
    (fun i _ x=>some (if x=0∨x=47 then .inr (1,((false,((i:Int),())),())) else .inl ())) (fun i _=>(0,((false,((i:Int),())),()))) (fun _ _=>True)
    (fun u i x hx hi _=>by
      unfold P_ref07_isName_L0
      dsimp only
      rw [ltI_len_true hi,sel_true,idx_some' hx,obind_some,u8_0]
      by_cases h0:x=0
      · rw [decide_eq_true h0,nt_true,sel_false,obind_some,sel_true,if_pos (.inl h0)];rfl
      · rw [decide_eq_false h0,nt_false,sel_true,obind_some,u8_47,obind_some]
        by_cases h1:x=47
        · rw [decide_eq_true h1,sel_true,if_pos (.inr h1)];rfl
        · rw [decide_eq_false h1,sel_false,if_neg (by simp [h0,h1]),iadd_one (by omega)];rfl)
    (fun _ _ _ _ _ _ _=>trivial)
    (fun u _=>by
      unfold P_ref07_isName_L0
      dsimp only
      rw [ltI_len_end,sel_false])
    (fun _ _ _ _ _ h=>by cases h) () trivial
  have run:∀ (r:List UInt8) (i:Nat),∃ q,runL (fun i (_:Unit) x=>some (if x=0∨x=47 then Sum.inr (1,((false,((i:Int),())),())) else Sum.inl ())) (fun i _=>((0:Nat),((false,((i:Int),())),()))) r i ()=some q ∧
      q.1=(if 0 ∉ r∧47 ∉ r then 0 else 1)∧q.2.1.1=false:=by
    intro r
    induction r with
    | nil=>intro i;exact ⟨_,rfl,by simp,rfl⟩
    | cons x r ih =>
      intro i
      unfold runL
      by_cases h:x=0∨x=47
      · simp only [if_pos h]
        refine ⟨_,rfl,?_,rfl⟩
        rw [if_neg]
        rcases h with h | h <;> simp [h]
      · simp only [if_neg h]
        obtain ⟨q,h1,h2,h3⟩:=ih (i + 1)
        refine ⟨q,h1,?_,h3⟩
        rw [h2]
        simp only [not_or] at h
        simp only [List.mem_cons,not_or]
        have h1':¬ (0=x):=fun e=>h.1 e.symm
        have h2':¬ (47=x):=fun e=>h.2 e.symm
        simp [h1',h2']
  obtain ⟨q,h1,h2,h3⟩:=run s 0
  have key':Loop (P_ref07_isName_L0 (s,())) ((false,((0:Int),())),())=some q:=key.trans h1
  rw [key',obind_some]
  have el:leI 1 (len s)=decide (1≤s.length):=by unfold leI len;apply decide_eq_decide.2;omega
  have eh:leI (len s) 32=decide (s.length≤32):=leI_len 32 s
  rw [el,eh,h2,h3]
  unfold isNm
  by_cases a:0 ∉ s∧47 ∉ s
  · rw [if_pos a, eqN_zero, sel_true]
    by_cases c:1≤s.length
    · by_cases d : s.length ≤ 32
      · by_cases e : s = [46]
        · simp [e,sel,eqS,nt]
        · by_cases f:s=[46,46]
          · simp [f,sel,eqS,nt]
          · simp [a,c,d,e,f,sel,eqS,nt]
      · simp [d,c,sel]
    · simp [c,sel]
  · rw [if_neg a, eqN_one, sel_false]
    congr 2
    by_cases b:0 ∈ s
    · simp [b]
    · have:47 ∈ s:=by
        have:=a
        simp only [not_and,Decidable.not_not] at this
        exact this b
      simp [this]

theorem refIs_val (p:List UInt8) (hp:p.length≤1048576):P_ref07_Is (p,())=some ((parts p).all isNm && decide ((parts p).length≤8) && decide (p.length≤96),()):=by
  unfold P_ref07_Is
  dsimp only
  rw [refParts_val p hp,obind_some]
  have hm:=parts_mem p
  have hn:=length_parts p
  generalize parts p=l at hm hn
  have key:=loop_run (f:=P_ref07_Is_L0 (l,())) l (fun (_:Unit) i=>((false,((i:Int),())),()))
    (fun i _ x=>some (if isNm x=false then .inr (1,((false,((i:Int),())),())) else .inl ())) (fun i _=>(0,((false,((i:Int),())),()))) (fun _ _=>True)
    (fun u i x hx hi _=>by
      unfold P_ref07_Is_L0
      dsimp only
      have hx':=hm x (List.mem_of_getElem? hx)
      rw [ltI_len_true hi,sel_true,idx_some' hx,obind_some,refIsName_val x (by omega),obind_some]
      dsimp only
      rw [decide_eq_true hx'.1,Bool.and_true]
      cases h:isNm x with
      | true=>rw [nt_true,sel_false,if_neg (by simp),iadd_one (by omega)];rfl
      | false=>rw [nt_false,sel_true,if_pos rfl];rfl)
    (fun _ _ _ _ _ _ _=>trivial)
    (fun u _=>by
      unfold P_ref07_Is_L0
      dsimp only
      rw [ltI_len_end,sel_false])
    (fun _ _ _ _ _ h=>by cases h) () trivial
  have run:∀ (r:List (List UInt8)) (i:Nat),∃ q,runL (fun i (_:Unit) x=>some (if isNm x=false then Sum.inr (1,((false,((i:Int),())),())) else Sum.inl ())) (fun i _=>((0:Nat),((false,((i:Int),())),()))) r i ()=some q ∧
      q.1=(if r.all isNm=true then 0 else 1)∧q.2.1.1=false:=by
    intro r
    induction r with
    | nil=>intro i;exact ⟨_,rfl,rfl,rfl⟩
    | cons x r ih =>
      intro i
      unfold runL
      cases h:isNm x with
      | false=>exact ⟨_,rfl,by simp [h],rfl⟩
      | true =>
        obtain ⟨q,h1,h2,h3⟩:=ih (i + 1)
        exact ⟨q,h1,by rw [h2];simp [h],h3⟩
  obtain ⟨q,h1,h2,h3⟩:=run l 0
  have key':Loop (P_ref07_Is_L0 (l,())) ((false,((0:Int),())),())=some q:=key.trans h1
  rw [key',obind_some,h2,h3]
  have e8:leI (len l) 8=decide (l.length≤8):=leI_len 8 l
  have e96:leI (len p) 96=decide (p.length≤96):=leI_len 96 p
  rw [e8,e96]
  cases h:l.all isNm with
  | true =>
    rw [if_pos rfl,eqN_zero,sel_true]
    by_cases a:l.length≤8 <;> simp [a,sel]
  | false=>rw [if_neg (by simp),eqN_one,sel_false];simp

/-! ### Clean -/
def keepN (x:List UInt8):Bool:=decide (x ≠ []∧x ≠ [46])
def names (s:List UInt8):List (List UInt8):=(parts s).filter keepN
def cleanOk (s:List UInt8):Bool:=(names s).all isNm && decide (s.head? ≠ some 47) && decide ((names s).length≤8) && decide ((joinS (names s)).length≤96)
def cleanF (s:List UInt8):List UInt8×Int:=if cleanOk s then (joinS (names s),0) else ([],2)

theorem names_mem (s:List UInt8):∀ x ∈ names s,47 ∉ x∧x ≠ []∧x.length≤s.length:=by
 intro x hx
 obtain ⟨h1,h2⟩:=List.mem_filter.1 hx
 obtain ⟨h3,h4⟩:=parts_mem s x h1
 simp only [keepN,decide_eq_true_eq] at h2
 exact ⟨h3,h2.1,h4⟩
theorem length_names (s:List UInt8):(names s).length≤s.length + 1:=Nat.le_trans (List.length_filter_le _ _) (length_parts s)
theorem parts_names (s:List UInt8):parts (joinS (names s))=names s:=parts_joinS _ fun x hx=>⟨(names_mem s x hx).1,(names_mem s x hx).2.1⟩

theorem length_joinS_names (s:List UInt8):(joinS (names s)).length≤s.length:=by
  have gen:∀ (l:List (List UInt8)),(joinS (l.filter keepN)).length≤(joinS l).length:=by
    intro l
    induction l with
    | nil=>simp [joinS]
    | cons x r ih =>
      by_cases hk:keepN x=true
      · rw [List.filter_cons_of_pos hk]
        cases hr:r.filter keepN with
        | nil =>
          cases r with
          | nil=>exact Nat.le_refl _
          | cons y r=>simp only [joinS,List.length_append,List.length_cons];omega
        | cons y q =>
          rw [hr] at ih
          cases r with
          | nil=>simp at hr
          | cons z r=>simp only [joinS,List.length_append,List.length_cons] at ih ⊢;omega
      · rw [List.filter_cons_of_neg hk]
        cases r with
        | nil=>simp [joinS]
        | cons z r=>rw [joinS];simp only [List.length_append,List.length_cons];omega
  have:=gen (parts s)
  rw [joinS_parts] at this
  exact this

theorem head_prefix (s:List UInt8):P_strings_HasPrefix (s,([47],()))=some (decide (s.head? = some 47),()):=by
  unfold P_strings_HasPrefix P_internal_stringslite_HasPrefix
  dsimp only
  cases s with
  | nil=>rfl
  | cons b r =>
    have e:leI (len [(47:UInt8)]) (len (b :: r))=true:=leI_true (by simp only [len,List.length_cons,List.length_nil];omega)
    have e2:inside 0 (len [(47:UInt8)]) (len (b :: r))=true:=inside_true (by decide) (by decide) (by simp only [len,List.length_cons,List.length_nil];omega)
    rw [e,sel_true,e2,sel_true,sub_take',obind_some,obind_some]
    simp [eqS]

theorem clean_val (s:List UInt8) (hs:s.length≤4096):P_paths_Clean (s,())=some ((cleanF s).1,((cleanF s).2,())):=by
  unfold P_paths_Clean
  dsimp only
  rw [parts_val s (by omega),obind_some]
  have hm:=parts_mem s
  have hn:=length_parts s
  have key:=loop_run (f:=P_paths_Clean_L0 (parts s,())) (parts s) (fun (o:List (List UInt8)) i=>((([]:List UInt8),((0:Int),((),((i:Int),())))),(o,())))
    (fun i o x=>some (if keepN x=false then .inl o else if isNm x=false then .inr (1,((([]:List UInt8),((2:Int),((),((i:Int),())))),(o,()))) else .inl (o ++ [x]))) (fun i o=>(0,((([]:List UInt8),((0:Int),((),((i:Int),())))),(o,())))) (fun i o=>o.length≤i)
    (fun o i x hx hi hI=>by
      unfold P_paths_Clean_L0
      dsimp only
      rw [ltI_len_true hi,sel_true,idx_some' hx,obind_some]
      have hk:keepN x=(nt (eqS x []) && nt (eqS x [46])):=by simp [keepN,eqS,nt]
      by_cases a:x=[]
      · rw [eqS_true a,nt_true,sel_false,sel_true,obind_some]
        dsimp only
        rw [eqN_zero,sel_true,iadd_one (by omega),if_pos (by rw [hk,eqS_true a];rfl)];rfl
      · by_cases b : x = [46]
        · rw [eqS_false a,nt_false,sel_true,eqS_true b,sel_true,obind_some]
          dsimp only
          rw [eqN_zero,sel_true,iadd_one (by omega),if_pos (by rw [hk,eqS_true b];simp [nt])];rfl
        · rw [eqS_false a,nt_false,sel_true,eqS_false b,sel_false,isName_val,obind_some]
          dsimp only
          have hk1:keepN x=true:=by rw [hk,eqS_false a,eqS_false b];rfl
          cases h:isNm x with
          | false =>
            rw [nt_false,sel_true,obind_some]
            dsimp only
            rw [eqN_one,sel_false,if_neg (by rw [hk1];simp),if_pos rfl];rfl
          | true =>
            rw [nt_true,sel_false,fits_len2 (by simp only [List.length_cons,List.length_nil];omega),sel_true,obind_some]
            dsimp only
            rw [eqN_zero,sel_true,iadd_one (by omega),if_neg (by rw [hk1];simp),if_neg (by simp)];rfl)
    (fun o i x o' hx hI hq=>by
      have hq:=Option.some.inj hq
      by_cases a:keepN x=false
      · rw [if_pos a] at hq;obtain rfl:=Sum.inl.inj hq;omega
      · rw [if_neg a] at hq
        by_cases b:isNm x=false
        · rw [if_pos b] at hq;cases hq
        · rw [if_neg b] at hq;obtain rfl:=Sum.inl.inj hq;simp only [List.length_append,List.length_cons,List.length_nil];omega)
    (fun o _=>by
      unfold P_paths_Clean_L0
      dsimp only
      rw [ltI_len_end,sel_false])
    (fun _ _ _ _ _ h=>by cases h) [] (Nat.le_refl _)
  have run:∀ (r:List (List UInt8)) (i:Nat) (o:List (List UInt8)),∃ q,runL (fun i (o:List (List UInt8)) x=>some (if keepN x=false then Sum.inl o else if isNm x=false then Sum.inr (1,((([]:List UInt8),((2:Int),((),((i:Int),())))),(o,()))) else Sum.inl (o ++ [x]))) (fun i o=>((0:Nat),((([]:List UInt8),((0:Int),((),((i:Int),())))),(o,())))) r i o=some q ∧
      (if (r.filter keepN).all isNm=true then q.1=0∧q.2.2.1=o ++ r.filter keepN else q.1=1∧q.2.1.1=[]∧q.2.1.2.1=2):=by
    intro r
    induction r with
    | nil=>intro i o;exact ⟨_,rfl,by simp⟩
    | cons x r ih =>
      intro i o
      unfold runL
      cases hk:keepN x with
      | false =>
        obtain ⟨q,h1,h2⟩:=ih (i + 1) o
        refine ⟨q,h1,?_⟩
        rw [List.filter_cons_of_neg (by simp [hk])]
        exact h2
      | true =>
        rw [List.filter_cons_of_pos hk]
        cases hx:isNm x with
        | false=>exact ⟨_,rfl,by simp [hx]⟩
        | true =>
          obtain ⟨q,h1,h2⟩:=ih (i + 1) (o ++ [x])
          refine ⟨q,h1,?_⟩
          simp only [List.all_cons,hx,Bool.true_and]
          rw [List.append_assoc] at h2
          exact h2
  obtain ⟨q,h1,h2⟩:=run (parts s) 0 []
  have key':Loop (P_paths_Clean_L0 (parts s,())) ((([]:List UInt8),((0:Int),((),((0:Int),())))),(([]:List (List UInt8)),()))=some q:=key.trans h1
  rw [key',obind_some]
  rw [show (parts s).filter keepN=names s from rfl,List.nil_append] at h2
  have hj:=length_joinS_names s
  have hnn:=length_names s
  unfold cleanF cleanOk
  cases ha:(names s).all isNm with
  | false =>
    rw [ha,if_neg (by simp)] at h2
    rw [h2.1,eqN_one,sel_false,h2.2.1,h2.2.2]
    rfl
  | true =>
    rw [ha,if_pos rfl] at h2
    rw [h2.1,eqN_zero,sel_true,h2.2]
    have ej:P_strings_Join (names s,([47],()))=some (joinS (names s),()):=by
      show (S_join (names s) [47]).map (fun y=>(y,()))=_
      unfold S_join
      rw [lib_join,if_pos ⟨by omega,by omega⟩]
      rfl
    rw [ej,obind_some,head_prefix,obind_some]
    dsimp only
    have e8:ltI 8 (len (names s)) = !decide ((names s).length≤8):=by
      by_cases h:(names s).length≤8
      · rw [ltI_false (by simp only [len];omega)];simp [h]
      · rw [ltI_true (by simp only [len];omega)];simp [h]
    have e96:ltI 96 (len (joinS (names s))) = !decide ((joinS (names s)).length≤96):=by
      by_cases h:(joinS (names s)).length≤96
      · rw [ltI_false (by simp only [len];omega)];simp [h]
      · rw [ltI_true (by simp only [len];omega)];simp [h]
    rw [e8,e96]
    by_cases a:s.head? = some 47
    · simp [a,sel,nt]
    · by_cases b:(names s).length≤8
      · by_cases c:(joinS (names s)).length≤96 <;> simp [a,b,c,sel,nt]
      · simp [a,b,sel,nt]

theorem refClean_val (s:List UInt8) (hs:s.length≤4096):P_ref07_Clean (s,())=some ((cleanF s).1,((cleanF s).2,())):=by
  unfold P_ref07_Clean
  dsimp only
  rw [refParts_val s (by omega),obind_some]
  have hm:=parts_mem s
  have hn:=length_parts s
  have key:=loop_run (f:=P_ref07_Clean_L0 (parts s,())) (parts s) (fun (o:List (List UInt8)) i=>(((),((i:Int),())),(o,())))
    (fun i o x=>some (.inl (if keepN x=true then o ++ [x] else o))) (fun i o=>(((),((i:Int),())),(o,()))) (fun i o=>o.length≤i)
    (fun o i x hx hi hI=>by
      unfold P_ref07_Clean_L0
      dsimp only
      rw [ltI_len_true hi,sel_true,idx_some' hx,obind_some,obind_some]
      have hk:keepN x=(nt (eqS x []) && nt (eqS x [46])):=by simp [keepN,eqS,nt]
      by_cases a:x=[]
      · rw [eqS_true a,nt_true,sel_false,obind_some,sel_false,obind_some,iadd_one (by omega),if_neg (by rw [hk,eqS_true a];simp [nt])];rfl
      · by_cases b:x=[46]
        · rw [eqS_false a,nt_false,sel_true,eqS_true b,nt_true,obind_some,sel_false,obind_some,iadd_one (by omega),if_neg (by rw [hk,eqS_true b];simp [nt])];rfl
        · rw [eqS_false a,nt_false,sel_true,eqS_false b,nt_false,obind_some,sel_true,obind_some,fits_len2 (by simp only [List.length_cons,List.length_nil];omega),sel_true,obind_some,iadd_one (by omega),if_pos (by rw [hk,eqS_false a,eqS_false b];rfl)];rfl)
    (fun o i x o' hx hI hq=>by
      obtain rfl:=Sum.inl.inj (Option.some.inj hq)
      by_cases a:keepN x=true
      · rw [if_pos a];simp only [List.length_append,List.length_cons,List.length_nil];omega
      · rw [if_neg a];omega)
    (fun o _=>by
      unfold P_ref07_Clean_L0
      dsimp only
      rw [ltI_len_end,sel_false];rfl)
    (fun _ _ _ _ _ h=>by cases h) [] (Nat.le_refl _)
  have run:∀ (r:List (List UInt8)) (i:Nat) (o:List (List UInt8)),∃ j,runL (fun i (o:List (List UInt8)) x=>some (Sum.inl (if keepN x=true then o ++ [x] else o))) (fun i o=>(((),((i:Int),())),(o,()))) r i o=some (((),(j,())),(o ++ r.filter keepN,())):=by
    intro r
    induction r with
    | nil=>intro i o;exact ⟨(i:Int),by simp [runL]⟩
    | cons x r ih =>
      intro i o
      unfold runL
      by_cases hk:keepN x=true
      · simp only [if_pos hk]
        obtain ⟨j,h⟩:=ih (i + 1) (o ++ [x])
        exact ⟨j,by rw [h,List.filter_cons_of_pos hk];simp⟩
      · simp only [if_neg hk]
        obtain ⟨j,h⟩:=ih (i + 1) o
        exact ⟨j,by rw [h,List.filter_cons_of_neg hk]⟩
  obtain ⟨j,h1⟩:=run (parts s) 0 []
  have key':Loop (P_ref07_Clean_L0 (parts s,())) (((),((0:Int),())),(([]:List (List UInt8)),()))=some (((),(j,())),(names s,())):=by
    have:=key.trans h1
    rw [List.nil_append] at this
    exact this
  have hj:=length_joinS_names s
  have hnn:=length_names s
  rw [key',obind_some]
  dsimp only
  rw [refJoin_val _ (by omega) (by omega),obind_some]
  have e0:obind (sel (nt (eqS s [])) (obind (idx s 0) fun y4=>some (eqI (u8 y4) 47)) (some false))=fun (f:Bool→Option (List UInt8×Int×Unit))=>f (decide (s.head? = some 47)):=by
    funext f
    cases s with
    | nil=>rfl
    | cons b r =>
      rw [eqS_false (by simp),nt_false,sel_true,show idx (b :: r) 0=some b from rfl,obind_some,u8_47,obind_some]
      congr 1
      simp
  rw [e0]
  dsimp only
  rw [refIs_val _ (by omega),obind_some,parts_names]
  unfold cleanF cleanOk
  dsimp only
  by_cases a:s.head? = some 47
  · simp [a,sel,nt,obind]
  · cases ha:(names s).all isNm with
    | false=>simp [a,sel,nt,obind]
    | true =>
      by_cases b:(names s).length≤8
      · by_cases c:(joinS (names s)).length≤96 <;> simp [a,b,c,sel,nt,obind]
      · simp [a,b,sel,nt,obind]
end Go.Ge

/- Paths in plain words: split, joined, under one another, compared, marks. -/
namespace Go.Ge
set_option linter.unusedVariables false
set_option linter.unusedSimpArgs false

/-! ### Where the last stroke stands -/
def lastN (p:List UInt8):Nat→Option Nat
 | 0=>none
 | n + 1=>if p[n]? = some 47 then some n else lastN p n

theorem lastByte_val (p:List UInt8) (hp:p.length≤1048576):P_internal_bytealg_LastIndexByteString (p,(47,()))=some (match lastN p p.length with | some k=>(k:Int) | none=>-1,()):=by
  unfold P_internal_bytealg_LastIndexByteString
  dsimp only
  have run:∀ n,n≤p.length→∃ q,Loop (P_internal_bytealg_LastIndexByteString_L0 (p,(47,()))) ((0,(((n:Int) - 1),())),())=some q∧(match lastN p n with | some k=>q.1=1∧q.2.1.1=(k:Int) | none=>q.1=0):=by
    intro n
    induction n with
    | zero =>
      intro _
      refine ⟨(0,((0,(-1,())),())),?_,rfl⟩
      rw [Loop_eq];rfl
    | succ n ih =>
      intro hn
      obtain ⟨y,hy⟩:∃ y,p[n]? = some y:=⟨_,List.getElem?_eq_getElem (by omega)⟩
      have e:((n + 1:Nat):Int) - 1=(n:Int):=by omega
      rw [e,Loop_eq]
      have st:P_internal_bytealg_LastIndexByteString_L0 (p,(47,())) ((0,((n:Int),())),())=if y=47 then some (.inr (1,(((n:Int),((n:Int),())),()))) else some (.inl ((0,((n:Int) - 1,())),())):=by
        unfold P_internal_bytealg_LastIndexByteString_L0
        dsimp only
        rw [leI_true (by omega),sel_true,idx_some' hy,obind_some,u8_47,isub_i64 (by omega) (by omega),sel_decide]
      rw [st,lastN,hy]
      by_cases h:y=47
      · rw [if_pos h,if_pos (by rw [h])]
        exact ⟨_,rfl,rfl,rfl⟩
      · rw [if_neg h,if_neg (fun q=>h (Option.some.inj q))]
        exact ih (by omega)
  obtain ⟨q,h1,h2⟩:=run p.length (Nat.le_refl _)
  have e:isub .i64 (len p) 1=(p.length:Int) - 1:=by rw [len_eq,isub_i64 (by omega) (by omega)]
  rw [e,h1,obind_some]
  cases hl:lastN p p.length with
  | none=>rw [hl] at h2;rw [h2,eqN_zero,sel_true]
  | some k=>rw [hl] at h2;rw [h2.1,h2.2,eqN_one,sel_false]

theorem lastN_some:∀ {p:List UInt8} {n k:Nat},lastN p n=some k→k < n∧p[k]? = some 47∧∀ j,k < j→j < n→p[j]? ≠ some 47:=by
  intro p n
  induction n with
  | zero=>intro k h;cases h
  | succ n ih =>
    intro k h
    rw [lastN] at h
    split at h
    · rename_i hp
      obtain rfl:=Option.some.inj h
      exact ⟨Nat.lt_succ_self _,hp,fun j h1 h2=>by omega⟩
    · rename_i hp
      obtain ⟨h1,h2,h3⟩:=ih h
      refine ⟨by omega,h2,fun j h4 h5=>?_⟩
      by_cases e:j=n
      · rw [e];exact hp
      · exact h3 j h4 (by omega)
theorem lastN_none:∀ {p:List UInt8} {n:Nat},lastN p n=none→∀ j,j < n→p[j]? ≠ some 47:=by
  intro p n
  induction n with
  | zero=>intro _ j h;omega
  | succ n ih =>
    intro h j hj
    rw [lastN] at h
    split at h
    · cases h
    · rename_i hp
      by_cases e:j=n
      · rw [e];exact hp
      · exact ih h j (by omega)

def splitF (p:List UInt8):List UInt8×List UInt8:=match lastN p p.length with | some k=>(p.take k,p.drop (k + 1)) | none=>([],p)

theorem split_cases (p:List UInt8):(47 ∉ p∧splitF p=([],p))∨∃ a b,p=a ++ 47 :: b∧47 ∉ b∧splitF p=(a,b):=by
  unfold splitF
  cases h:lastN p p.length with
  | none =>
    refine .inl ⟨fun hm=>?_,rfl⟩
    obtain ⟨j,hj,e⟩:=List.getElem_of_mem hm
    exact lastN_none h j hj (by rw [List.getElem?_eq_getElem hj,e])
  | some k =>
    obtain ⟨h1,h2,h3⟩:=lastN_some h
    refine .inr ⟨p.take k,p.drop (k + 1),?_,fun hm=>?_,rfl⟩
    · obtain ⟨hk,e⟩:=List.getElem?_eq_some_iff.1 h2
      rw [← e,← List.drop_eq_getElem_cons hk,List.take_append_drop]
    · obtain ⟨j,hj,e⟩:=List.getElem_of_mem hm
      rw [List.length_drop] at hj
      rw [List.getElem_drop] at e
      exact h3 (k + 1 + j) (by omega) (by omega) (by rw [List.getElem?_eq_getElem (by omega),e])

theorem psplit_val (p:List UInt8) (hp:p.length≤1048576):P_paths_Split (p,())=some ((splitF p).1,((splitF p).2,())):=by
  unfold P_paths_Split P_strings_LastIndex
  dsimp only
  rw [show eqI (len [(47:UInt8)]) 0=false from rfl,sel_false,show eqI (len [(47:UInt8)]) 1=true from rfl,sel_true,show idx [(47:UInt8)] 0=some 47 from rfl,obind_some]
  rw [show u8 47=47 from rfl,lastByte_val p hp,obind_some,obind_some]
  unfold splitF
  cases h:lastN p p.length with
  | none=>rw [ltI_true (by decide),sel_true]
  | some k =>
    obtain ⟨h1,_,_⟩:=lastN_some h
    dsimp only
    rw [ltI_false (by omega),sel_false,show inside 0 (k:Int) (len p)=true from inside_true (by omega) (by omega) (by rw [len_eq];omega),sel_true,iadd_one (by omega),inside_true (by omega) (by rw [len_eq];omega) (Int.le_refl _),sel_true,sub_take,sub_drop p (k + 1) (by omega)]

theorem splitS_snoc (a b:List UInt8) (hb:47 ∉ b):splitS (a ++ 47 :: b)=splitS a ++ [b]:=by
  induction a with
  | nil =>
    have e:splitS (47 :: b)=[] :: splitS b:=by rw [splitS,if_pos rfl]
    rw [List.nil_append,e,splitS_plain b hb];rfl
  | cons c a ih =>
    rw [List.cons_append]
    by_cases h:c=47
    · rw [splitS,if_pos h,ih]
      conv=>rhs;rw [splitS,if_pos h]
      rfl
    · cases hs:splitS a with
      | nil=>exact absurd hs (splitS_ne a)
      | cons x t =>
        rw [hs] at ih
        rw [splitS_cons h hs,splitS_cons h (by rw [ih];rfl)]
        rfl

theorem refSplit_val (p:List UInt8) (hp:p.length≤4096):P_ref07_Split (p,())=some ((splitF p).1,((splitF p).2,())):=by
 unfold P_ref07_Split
 dsimp only
 rw [refParts_val p (by omega),obind_some]
 by_cases h0:p=[]
 ·subst h0;rfl
 have hpp:parts p=splitS p:=by unfold parts;rw [if_neg h0]
 rcases split_cases p with ⟨h1,h2⟩ | ⟨a,b,rfl,h1,h2⟩
 ·rw [h2,hpp,splitS_plain p h1]
  dsimp only
  have e1:P_ref07_join (sub [p] 0 (minus (isub .i64 (len [p]) 1) 0),())=some ([],()):=by
   have e:sub [p] 0 (minus (isub .i64 (len [p]) 1) 0)=[]:=rfl
   rw [e]
   exact refJoin_val [] (by simp) (by simp [joinS])
  rw [show eqI (len [p]) 0=false from rfl,sel_false,show inside 0 (isub .i64 (len [p]) 1) (len [p])=true from rfl,sel_true,e1,obind_some]
  rfl
 ·rw [h2,hpp,splitS_snoc a b h1]
  dsimp only
  have hl:=length_splitS a
  rw [List.length_append] at hp
  simp only [List.length_cons] at hp
  have e1:isub .i64 (len (splitS a ++ [b])) 1=(((splitS a).length:Nat):Int):=by
   rw [len_eq,List.length_append,isub_i64 (by simp only [List.length_cons,List.length_nil];omega) (by simp only [List.length_cons,List.length_nil];omega)]
   simp only [List.length_cons,List.length_nil];omega
  rw [e1,eqI_false (by rw [len_eq,List.length_append];simp only [List.length_cons,List.length_nil];omega),sel_false,inside_true (by omega) (by omega) (by rw [len_eq,List.length_append];omega),sel_true,sub_take,List.take_left,
   refJoin_val _ (by omega) (by rw [joinS_splitS];omega),joinS_splitS,obind_some,idx_nat]
  simp [obind]

/-! ### Put together -/
def joinP (d n:List UInt8):List UInt8:=if d=[]∨n=[] then d ++ n else d ++ 47 :: n
theorem pjoin_val (d n:List UInt8) (hd:d.length≤1048576) (hn:n.length≤1048576):P_paths_Join (d,(n,()))=some (joinP d n,()):=by
 unfold P_paths_Join joinP
 dsimp only
 by_cases a:d=[]
 ·rw [eqS_true a,nt_true,sel_false,sel_true,fits_len2 (by omega),sel_true,if_pos (.inl a)];rfl
 ·rw [eqS_false a,nt_false,sel_true]
  by_cases b:n=[]
  ·rw [eqS_true b,sel_true,fits_len2 (by omega),sel_true,if_pos (.inr b)];rfl
  ·rw [eqS_false b,sel_false,fits_len2 (by simp only [List.length_cons,List.length_nil];omega),sel_true,fits_len2 (by simp only [app_eq,List.length_append,List.length_cons,List.length_nil];omega),sel_true,if_neg (by simp [a,b])]
   simp [app]
theorem refpjoin_val (d n:List UInt8) (hd:d.length≤1048576) (hn:n.length≤1048576):P_ref07_Join (d,(n,()))=some (joinP d n,()):=by
 unfold P_ref07_Join joinP
 dsimp only
 by_cases a:d=[]
 ·rw [eqS_true a,sel_true,if_pos (.inl a),a];rfl
 ·rw [eqS_false a,sel_false]
  by_cases b:n=[]
  ·rw [eqS_true b,sel_true,if_pos (.inr b),b,List.append_nil]
  ·rw [eqS_false b,sel_false,fits_len2 (by simp only [List.length_cons,List.length_nil];omega),sel_true,fits_len2 (by simp only [app_eq,List.length_append,List.length_cons,List.length_nil];omega),sel_true,if_neg (by simp [a,b])]
   simp [app]

/-! ### Under one another -/
def underL (x y:List (List UInt8)):Bool:=decide (y.length < x.length∧x.take y.length=y)

theorem pairs_run {α:Type} [DecidableEq α] (Q:Nat→Nat→Nat×(Bool×Int×Unit)×Unit) (hQ:∀ i j,(Q i j).1=j∧(Q i j).2.1.1=false):∀ (r:List (α×α)) (i:Nat),∃ q,runL (fun i (_:Unit) p=>some (if p.1=p.2 then Sum.inl () else Sum.inr (Q i 1))) (fun i _=>Q i 0) r i ()=some q ∧
      q.1=(if r.all (fun p=>decide (p.1=p.2))=true then 0 else 1)∧q.2.1.1=false:=by
  intro r
  induction r with
  | nil=>intro i;exact ⟨_,rfl,(hQ _ _).1,(hQ _ _).2⟩
  | cons p r ih =>
    intro i
    unfold runL
    by_cases h:p.1=p.2
    · simp only [if_pos h]
      obtain ⟨q,h1,h2,h3⟩:=ih (i + 1)
      exact ⟨q,h1,by rw [h2,List.all_cons,decide_eq_true h,Bool.true_and],h3⟩
    · simp only [if_neg h]
      exact ⟨_,rfl,by rw [(hQ _ _).1,List.all_cons,decide_eq_false h,Bool.false_and,if_neg (by simp)],(hQ _ _).2⟩

theorem equal_val (x y:List (List UInt8)) (hx:x.length≤1048576) (hy:y.length≤1048576):P_slices_Equal_string_string (x,(y,()))=some (decide (x=y),()):=by
  unfold P_slices_Equal_string_string
  dsimp only
  rw [eqI_lens]
  by_cases hl:x.length=y.length
  · rw [decide_eq_true hl, nt_true, sel_false]
    have key:=loop_run (f:=P_slices_Equal_string_string_L0 (x,(y,()))) (x.zip y) (fun (_:Unit) i=>((false,((i:Int),())),()))
      (fun i _ p=>some (if p.1=p.2 then .inl () else .inr (1,((false,((i:Int),())),())))) (fun i _=>(0,((false,((i:Int),())),()))) (fun _ _=>True)
      (fun u i p hp hi _=>by
        obtain ⟨h1,h2⟩:=zip_at hp
        have hlx:=getElem?_lt h1
        unfold P_slices_Equal_string_string_L0
        dsimp only
        rw [ltI_len_true (getElem?_lt h1),sel_true,idx_some' h1,obind_some,idx_some' h2,obind_some]
        by_cases e:p.1=p.2
        · rw [eqS_true e,nt_true,sel_false,iadd_one (by omega),if_pos e];rfl
        · rw [eqS_false e,nt_false,sel_true,if_neg e];rfl)
      (fun _ _ _ _ _ _ _=>trivial)
      (fun u _=>by
        have e:(x.zip y).length=x.length:=by rw [List.length_zip,hl,Nat.min_self]
        unfold P_slices_Equal_string_string_L0
        dsimp only
        rw [e,ltI_len_end,sel_false])
      (fun _ _ _ _ _ h=>by cases h) () trivial
    obtain ⟨q,h1,h2,h3⟩:=pairs_run (fun i j=>(j,((false,((i:Int),())),()))) (fun _ _=>⟨rfl,rfl⟩) (x.zip y) 0
    have key':Loop (P_slices_Equal_string_string_L0 (x,(y,()))) ((false,((0:Int),())),())=some q:=key.trans h1
    rw [key',obind_some,h2,h3,zip_same_len hl]
    by_cases e:x=y
    · rw [decide_eq_true e,if_pos rfl,eqN_zero,sel_true]
    · rw [decide_eq_false e,if_neg (by simp),eqN_one,sel_false]
  · rw [decide_eq_false hl,nt_false,sel_true,decide_eq_false (fun e=>hl (by rw [e]))]

theorem under_val (p d:List UInt8) (hp:p.length≤4096) (hd:d.length≤4096):P_paths_Under (p,(d,()))=some (underL (parts p) (parts d),()):=by
 unfold P_paths_Under underL
 dsimp only
 have h1:=length_parts p
 have h2:=length_parts d
 rw [parts_val p (by omega),obind_some,parts_val d (by omega),obind_some]
 dsimp only
 rw [ltI_lens]
 by_cases h:(parts d).length < (parts p).length
 ·rw [decide_eq_true h,sel_true,show inside 0 (len (parts d)) (len (parts p))=true from inside_true (by decide) (by rw [len_eq];omega) (by rw [len_eq,len_eq];omega),sel_true,sub_take',equal_val _ _ (by rw [List.length_take];omega) (by omega),obind_some,obind_some]
  simp [h]
 ·rw [decide_eq_false h,sel_false,obind_some]
  simp [h]

theorem refUnder_val (p d:List UInt8) (hp:p.length≤4096) (hd:d.length≤4096):P_ref07_Under (p,(d,()))=some (underL (parts p) (parts d),()):=by
  unfold P_ref07_Under underL
  dsimp only
  have h1:=length_parts p
  have h2:=length_parts d
  rw [refParts_val p (by omega),obind_some,refParts_val d (by omega),obind_some]
  dsimp only
  rw [leI_lens]
  generalize parts p=x at h1
  generalize parts d=y at h2
  by_cases h:y.length < x.length
  · rw [decide_eq_false (by omega), sel_false]
    have e:(x.zip y).length=y.length:=by rw [List.length_zip];omega
    have key:=loop_run (f:=P_ref07_Under_L0 (x,()) (y,())) (x.zip y) (fun (_:Unit) i=>((false,((i:Int),())),()))
      (fun i _ p=>some (if p.1=p.2 then .inl () else .inr (1,((false,((i:Int),())),())))) (fun i _=>(0,((false,((i:Int),())),()))) (fun _ _=>True)
      (fun u i p hp hi _=>by
        obtain ⟨h1,h2⟩:=zip_at hp
        have hlx:=getElem?_lt h1
        unfold P_ref07_Under_L0
        dsimp only
        rw [ltI_len_true (getElem?_lt h1),ltI_len_true (getElem?_lt h2),sel_true,sel_true,idx_some' h1,obind_some,idx_some' h2,obind_some]
        by_cases e:p.1=p.2
        · rw [eqS_true e,nt_true,sel_false,iadd_one (by omega),if_pos e];rfl
        · rw [eqS_false e,nt_false,sel_true,if_neg e];rfl)
      (fun _ _ _ _ _ _ _=>trivial)
      (fun u _=>by
        unfold P_ref07_Under_L0
        dsimp only
        rw [e,ltI_len_end,sel_false,sel_false])
      (fun _ _ _ _ _ h=>by cases h) () trivial
    obtain ⟨q,k1,k2,k3⟩:=pairs_run (fun i j=>(j,((false,((i:Int),())),()))) (fun _ _=>⟨rfl,rfl⟩) (x.zip y) 0
    have key':Loop (P_ref07_Under_L0 (x,()) (y,())) ((false,((0:Int),())),())=some q:=key.trans k1
    rw [key',obind_some,k2,k3,zip_same,show min x.length y.length=y.length by omega,List.take_length]
    by_cases a:x.take y.length=y
    · rw [decide_eq_true a,if_pos rfl,eqN_zero,sel_true];simp [h,a]
    · rw [decide_eq_false a,if_neg (by simp),eqN_one,sel_false];simp [a]
  · rw [decide_eq_true (by omega),sel_true]
    simp [h]

/-! ### Compared -/
theorem isNaN_val (x:List UInt8):P_cmp_isNaN_string (x,())=some (false,()):=by
 unfold P_cmp_isNaN_string
 rw [eqS_self];rfl
theorem cmpS_val (x y:List UInt8):P_cmp_Compare_string (x,(y,()))=some (cmpS x y,()):=by
 unfold P_cmp_Compare_string cmpS
 dsimp only
 rw [isNaN_val,obind_some,isNaN_val,obind_some]
 dsimp only
 rw [sel_false,sel_false,gtS_eq]
 rcases ltS_tri x y with h | rfl | h
 ·rw [h,sel_true,if_pos rfl]
 ·rw [ltS_irrefl,sel_false,sel_false,if_neg (by simp),if_pos rfl]
 ·rw [ltS_asymm h,sel_false,h,sel_true,if_neg (by simp),if_neg (fun e=>ltS_ne h e.symm)]

theorem compare_val (a b:List UInt8) (ha:a.length≤4096) (hb:b.length≤4096):P_paths_Compare (a,(b,()))=some (cmpL (parts a) (parts b),()):=by
  unfold P_paths_Compare
  dsimp only
  have h1:=length_parts a
  have h2:=length_parts b
  rw [parts_val a (by omega),obind_some,parts_val b (by omega),obind_some]
  generalize parts a=x at h1
  generalize parts b=y at h2
  have run:∀ (n i:Nat),x.length - i≤n→i≤x.length→i≤y.length→x.take i=y.take i→∃ q,Loop (P_paths_Compare_L0 (x,()) (y,())) ((0,((i:Int),())),())=some q ∧
      (if q.1=0 then x.length≤y.length∧cmpL (x.drop i) (y.drop i)=(if x.length < y.length then -1 else 0) else q.1=1∧q.2.1.1=cmpL (x.drop i) (y.drop i)):=by
    intro n
    induction n with
    | zero =>
      intro i hn hx hy ht
      obtain rfl:i=x.length:=by omega
      refine ⟨(0,((0,((x.length:Int),())),())),?_,?_⟩
      · rw [Loop_eq]
        have:P_paths_Compare_L0 (x,()) (y,()) ((0,((x.length:Int),())),())=some (.inr (0,((0,((x.length:Int),())),()))):=by
          unfold P_paths_Compare_L0
          dsimp only
          rw [ltI_len_end,sel_false]
        rw [this];rfl
      · rw [if_pos rfl]
        refine ⟨hy,?_⟩
        rw [List.drop_length]
        by_cases h:x.length < y.length
        · rw [if_pos h]
          cases hd:y.drop x.length with
          | nil=>have:=congrArg List.length hd;rw [List.length_drop] at this;simp only [List.length_nil] at this;omega
          | cons b r=>rfl
        · rw [if_neg h,List.drop_of_length_le (by omega)];rfl
    | succ n ih =>
      intro i hn hx hy ht
      by_cases hi:i < x.length
      · obtain ⟨u,hu⟩:∃ u,x[i]? = some u:=⟨_,List.getElem?_eq_getElem hi⟩
        obtain ⟨hu1,hu2⟩:=List.getElem?_eq_some_iff.1 hu
        have dx:x.drop i=u :: x.drop (i + 1):=by rw [List.drop_eq_getElem_cons hi,hu2]
        rw [Loop_eq]
        by_cases hj:i < y.length
        · obtain ⟨v,hv⟩:∃ v,y[i]? = some v:=⟨_,List.getElem?_eq_getElem hj⟩
          obtain ⟨hv1,hv2⟩:=List.getElem?_eq_some_iff.1 hv
          have dy:y.drop i=v :: y.drop (i + 1):=by rw [List.drop_eq_getElem_cons hj,hv2]
          have st:P_paths_Compare_L0 (x,()) (y,()) ((0,((i:Int),())),())=if u=v then some (.inl ((0,(((i + 1:Nat):Int),())),())) else some (.inr (1,((cmpS u v,((i:Int),())),()))):=by
            unfold P_paths_Compare_L0
            dsimp only
            rw [ltI_len_true hi,sel_true,idx_some' hu,obind_some,leI_len,decide_eq_false (by omega),sel_false,idx_some' hv,obind_some,cmpS_val,obind_some]
            dsimp only
            by_cases e:u=v
            · rw [if_pos e,show cmpS u v=0 by unfold cmpS;rw [e,ltS_irrefl,if_neg (by simp),if_pos rfl],show nt (eqI 0 0)=false from rfl,sel_false,iadd_one (by omega)]
            · rw [if_neg e,show eqI (cmpS u v) 0=false from eqI_false (by unfold cmpS;split <;> (try split) <;> first | decide | exact absurd (by assumption) e),nt_false,sel_true]
          rw [st,dx,dy,cmpL]
          by_cases e:u=v
          · rw [if_pos e,if_pos e]
            exact ih (i + 1) (by omega) (by omega) (by omega) (by rw [List.take_add_one,List.take_add_one,hu,hv,ht,e])
          · rw [if_neg e,if_neg e]
            refine ⟨_,rfl,?_⟩
            rw [if_neg (by simp)]
            refine ⟨rfl,?_⟩
            show cmpS u v=_
            unfold cmpS
            rw [if_neg e]
        · have st:P_paths_Compare_L0 (x,()) (y,()) ((0,((i:Int),())),())=some (.inr (1,((1,((i:Int),())),()))):=by
            unfold P_paths_Compare_L0
            dsimp only
            rw [ltI_len_true hi,sel_true,idx_some' hu,obind_some,leI_len,decide_eq_true (by omega),sel_true]
          rw [st]
          refine ⟨_,rfl,?_⟩
          rw [if_neg (by simp),dx,show y.drop i=[] from List.drop_of_length_le (by omega)]
          exact ⟨rfl,rfl⟩
      · exact ih i (by omega) hx hy ht
  obtain ⟨q,k1,k2⟩:=run x.length 0 (by omega) (by omega) (by omega) rfl
  have k1':Loop (P_paths_Compare_L0 (x,()) (y,())) ((0,((0:Int),())),())=some q:=k1
  rw [k1',obind_some]
  rw [List.drop_zero,List.drop_zero] at k2
  by_cases h:q.1=0
  · rw [if_pos h] at k2
    rw [h,eqN_zero,sel_true,ltI_lens,k2.2]
    by_cases l:x.length < y.length
    · rw [decide_eq_true l,sel_true,if_pos l]
    · rw [decide_eq_false l,sel_false,if_neg l]
  · rw [if_neg h] at k2
    rw [k2.1,eqN_one,sel_false,k2.2]

theorem refCompare_val (a b:List UInt8) (ha:a.length≤4096) (hb:b.length≤4096):P_ref07_Compare (a,(b,()))=some (cmpL (parts a) (parts b),()):=by
  unfold P_ref07_Compare
  dsimp only
  have h1:=length_parts a
  have h2:=length_parts b
  rw [refParts_val a (by omega),obind_some,refParts_val b (by omega),obind_some]
  generalize parts a=x at h1
  generalize parts b=y at h2
  have run:∀ (n i:Nat),x.length - i≤n→i≤x.length→i≤y.length→∃ q,Loop (P_ref07_Compare_L0 (x,()) (y,())) ((0,((i:Int),())),())=some q ∧
      (if q.1=0 then cmpL (x.drop i) (y.drop i)=(if x.length < y.length then -1 else if y.length < x.length then 1 else 0) else q.1=1∧q.2.1.1=cmpL (x.drop i) (y.drop i)):=by
    intro n
    induction n with
    | zero =>
      intro i hn hx hy
      obtain rfl:i=x.length:=by omega
      refine ⟨(0,((0,((x.length:Int),())),())),?_,?_⟩
      · rw [Loop_eq]
        have:P_ref07_Compare_L0 (x,()) (y,()) ((0,((x.length:Int),())),())=some (.inr (0,((0,((x.length:Int),())),()))):=by
          unfold P_ref07_Compare_L0
          dsimp only
          rw [ltI_len_end,sel_false,sel_false]
        rw [this];rfl
      · rw [if_pos rfl,List.drop_length]
        by_cases h:x.length < y.length
        · rw [if_pos h]
          cases hd:y.drop x.length with
          | nil=>have:=congrArg List.length hd;rw [List.length_drop] at this;simp only [List.length_nil] at this;omega
          | cons b r=>rfl
        · rw [if_neg h,List.drop_of_length_le (by omega),if_neg (by omega)];rfl
    | succ n ih =>
      intro i hn hx hy
      by_cases hi:i < x.length
      · obtain ⟨u,hu⟩:∃ u,x[i]? = some u:=⟨_,List.getElem?_eq_getElem hi⟩
        obtain ⟨hu1,hu2⟩:=List.getElem?_eq_some_iff.1 hu
        have dx:x.drop i=u :: x.drop (i + 1):=by rw [List.drop_eq_getElem_cons hi,hu2]
        rw [Loop_eq]
        by_cases hj:i < y.length
        · obtain ⟨v,hv⟩:∃ v,y[i]? = some v:=⟨_,List.getElem?_eq_getElem hj⟩
          obtain ⟨hv1,hv2⟩:=List.getElem?_eq_some_iff.1 hv
          have dy:y.drop i=v :: y.drop (i + 1):=by rw [List.drop_eq_getElem_cons hj,hv2]
          have st:P_ref07_Compare_L0 (x,()) (y,()) ((0,((i:Int),())),())=if u=v then some (.inl ((0,(((i + 1:Nat):Int),())),())) else some (.inr (1,((if ltS u v=true then -1 else 1,((i:Int),())),()))):=by
            unfold P_ref07_Compare_L0
            dsimp only
            rw [ltI_len_true hi,ltI_len_true hj,sel_true,sel_true,idx_some' hu,obind_some,idx_some' hv,obind_some,obind_some,obind_some,gtS_eq]
            rcases ltS_tri u v with h | rfl | h
            · rw [h,sel_true,if_neg (ltS_ne h),if_pos rfl]
            · rw [ltS_irrefl,sel_false,sel_false,if_pos rfl,iadd_one (by omega)]
            · rw [ltS_asymm h,sel_false,h,sel_true,if_neg (fun e=>ltS_ne h e.symm),if_neg (by simp)]
          rw [st,dx,dy,cmpL]
          by_cases e:u=v
          · rw [if_pos e,if_pos e]
            exact ih (i + 1) (by omega) (by omega) (by omega)
          · rw [if_neg e,if_neg e]
            refine ⟨_,rfl,?_⟩
            rw [if_neg (by simp)]
            exact ⟨rfl,rfl⟩
        · have st:P_ref07_Compare_L0 (x,()) (y,()) ((0,((i:Int),())),())=some (.inr (0,((0,((i:Int),())),()))):=by
            unfold P_ref07_Compare_L0
            dsimp only
            rw [ltI_len_true hi,ltI_len,decide_eq_false hj,sel_true,sel_false]
          rw [st]
          refine ⟨_,rfl,?_⟩
          rw [if_pos rfl,dx,show y.drop i=[] from List.drop_of_length_le (by omega),if_neg (by omega),if_pos (by omega)]
          rfl
      · exact ih i (by omega) hx hy
  obtain ⟨q,k1,k2⟩:=run x.length 0 (by omega) (by omega) (by omega)
  have k1':Loop (P_ref07_Compare_L0 (x,()) (y,())) ((0,((0:Int),())),())=some q:=k1
  rw [k1',obind_some]
  rw [List.drop_zero,List.drop_zero] at k2
  by_cases h:q.1=0
  · rw [if_pos h] at k2
    rw [h,eqN_zero,sel_true,ltI_lens,ltI_lens,k2]
    by_cases l:x.length < y.length
    · rw [decide_eq_true l,sel_true,if_pos l]
    · rw [decide_eq_false l,sel_false,if_neg l]
      by_cases m:y.length < x.length
      · rw [decide_eq_true m,sel_true,if_pos m]
      · rw [decide_eq_false m,sel_false,if_neg m]
  · rw [if_neg h] at k2
    rw [k2.1,eqN_one,sel_false,k2.2]
end Go.Ge

/- Paths in plain words: marks; the three laws of paths answer true. -/
namespace Go.Ge
set_option linter.unusedVariables false
set_option linter.unusedSimpArgs false

/-! ### Beginnings -/
theorem prefix0_val (s p:List UInt8):P_internal_stringslite_HasPrefix (s,(p,()))=some (decide (s.take p.length=p),()):=by
 unfold P_internal_stringslite_HasPrefix
 dsimp only
 rw [leI_lens]
 by_cases h:p.length≤s.length
 ·rw [decide_eq_true h,sel_true,show inside 0 (len p) (len s)=true from inside_true (by decide) (by rw [len_eq];omega) (by rw [len_eq,len_eq];omega),sel_true,sub_take',obind_some]
  rfl
 ·rw [decide_eq_false h,sel_false,obind_some,decide_eq_false]
  intro e
  have:=congrArg List.length e
  rw [List.length_take] at this
  omega
theorem prefix_val (s p:List UInt8):P_strings_HasPrefix (s,(p,()))=some (decide (s.take p.length=p),()):=by
 unfold P_strings_HasPrefix
 dsimp only
 rw [prefix0_val,obind_some]
theorem begins_val (s p:List UInt8):P_ref07_begins (s,(p,()))=some (decide (s.take p.length=p),()):=by
 unfold P_ref07_begins
 dsimp only
 rw [leI_lens]
 by_cases h:p.length≤s.length
 ·rw [decide_eq_true h,sel_true,show inside 0 (len p) (len s)=true from inside_true (by decide) (by rw [len_eq];omega) (by rw [len_eq,len_eq];omega),sel_true,sub_take',obind_some]
  rfl
 ·rw [decide_eq_false h,sel_false,obind_some,decide_eq_false]
  intro e
  have:=congrArg List.length e
  rw [List.length_take] at this
  omega
theorem cutp_val (s p:List UInt8):P_strings_CutPrefix (s,(p,()))=some (if s.take p.length=p then (s.drop p.length,(true,())) else (s,(false,()))):=by
 unfold P_strings_CutPrefix P_internal_stringslite_CutPrefix
 dsimp only
 rw [prefix0_val,obind_some]
 dsimp only
 by_cases h:s.take p.length=p
 ·have hl:p.length≤s.length:=by
   have:=congrArg List.length h
   rw [List.length_take] at this
   omega
  rw [decide_eq_true h,nt_true,sel_false,show inside (len p) (len s) (len s)=true from inside_true (by rw [len_eq];omega) (by rw [len_eq,len_eq];omega) (Int.le_refl _),sel_true,obind_some,if_pos h]
  rw [show sub s (len p) (minus (len s) (len p))=s.drop p.length from sub_drop s p.length hl]
 ·rw [decide_eq_false h,nt_false,sel_true,obind_some,if_neg h]

/-! ### In a list -/
theorem scontains_val (l:List (List UInt8)) (s:List UInt8) (hl:l.length≤1048576):P_slices_Contains_string_string (l,(s,()))=some (decide (s ∈ l),()):=by
  unfold P_slices_Contains_string_string P_slices_Index_string_string
  dsimp only
  have key:=loop_run (f:=P_slices_Index_string_string_L0 (l,(s,()))) l (fun (_:Unit) i=>((0,((i:Int),())),()))
    (fun i _ x=>some (if s=x then .inr (1,(((i:Int),((i:Int),())),())) else .inl ())) (fun i _=>(0,((0,((i:Int),())),()))) (fun _ _=>True)
    (fun u i x hx hi _=>by
      unfold P_slices_Index_string_string_L0
      dsimp only
      rw [ltI_len_true hi,sel_true,idx_some' hx,obind_some]
      by_cases e:s=x
      · rw [eqS_true e,sel_true,if_pos e];rfl
      · rw [eqS_false e,sel_false,if_neg e,iadd_one (by omega)];rfl)
    (fun _ _ _ _ _ _ _=>trivial)
    (fun u _=>by
      unfold P_slices_Index_string_string_L0
      dsimp only
      rw [ltI_len_end,sel_false])
    (fun _ _ _ _ _ h=>by cases h) () trivial
  have run:∀ (r:List (List UInt8)) (i:Nat),∃ q,runL (fun i (_:Unit) x=>some (if s=x then Sum.inr (1,(((i:Int),((i:Int),())),())) else Sum.inl ())) (fun i _=>((0:Nat),(((0:Int),((i:Int),())),()))) r i ()=some q ∧
      (if s ∈ r then q.1=1∧0≤q.2.1.1 else q.1=0):=by
    intro r
    induction r with
    | nil=>intro i;exact ⟨_,rfl,by simp⟩
    | cons x r ih =>
      intro i
      unfold runL
      by_cases h:s=x
      · simp only [if_pos h]
        refine ⟨_,rfl,?_⟩
        rw [if_pos (by rw [h];exact List.mem_cons_self ..)]
        exact ⟨rfl,by simp⟩
      · simp only [if_neg h]
        obtain ⟨q,h1,h2⟩:=ih (i + 1)
        refine ⟨q,h1,?_⟩
        by_cases hm:s ∈ r
        · rw [if_pos (List.mem_cons_of_mem _ hm)];rw [if_pos hm] at h2;exact h2
        · rw [if_neg (by simp [h,hm])];rw [if_neg hm] at h2;exact h2
  obtain ⟨q,h1,h2⟩:=run l 0
  have key':Loop (P_slices_Index_string_string_L0 (l,(s,()))) ((0,((0:Int),())),())=some q:=key.trans h1
  rw [key',obind_some]
  by_cases h:s ∈ l
  · rw [if_pos h] at h2
    rw [h2.1,eqN_one,sel_false,obind_some,decide_eq_true h]
    dsimp only
    rw [leI_true h2.2]
  · rw [if_neg h] at h2
    rw [h2,eqN_zero,sel_true,obind_some,decide_eq_false h]
    rfl

/-! ### Marks -/
def wh:List UInt8:=[46,119,104,46]
def markF (n:List UInt8):Int×List UInt8 :=
 if n.take 4=wh then (if n.drop 4=[46,119,104,46,46,111,112,113] then (2,[]) else if (n.drop 4).take 4=wh∨n.drop 4=[]∨n.drop 4=[46]∨n.drop 4=[46,46] then (3,[]) else (1,n.drop 4)) else (0,n)

theorem mark_val (n:List UInt8):P_paths_Mark (n,())=some ((markF n).1,((markF n).2,())):=by
 unfold P_paths_Mark markF
 dsimp only
 rw [show ([46,119,104,46]:List UInt8)=wh from rfl,cutp_val,obind_some,show wh.length=4 from rfl]
 by_cases h:n.take 4=wh
 ·have e:n=wh ++ n.drop 4:=by rw [← h,List.take_append_drop]
  rw [if_pos h,if_pos h]
  dsimp only
  rw [nt_true,sel_false]
  generalize n.drop 4=r at e
  by_cases h1:r=[46,119,104,46,46,111,112,113]
  ·rw [if_pos h1,eqS_true (by rw [e,h1];rfl),sel_true]
  ·rw [if_neg h1,eqS_false (by rw [e];intro q;exact h1 (by simpa [wh] using q)),sel_false,prefix_val,obind_some]
   dsimp only
   rw [show wh.length=4 from rfl]
   by_cases h2:r.take 4=wh
   ·rw [if_pos (.inl h2),decide_eq_true h2,nt_true,sel_false,obind_some,sel_true]
   ·rw [decide_eq_false h2,nt_false,sel_true,scontains_val _ _ (by decide),obind_some,obind_some,sel_decide]
    have:r ∈ ([[],[46],[46,46]]:List (List UInt8)) ↔ (r=[]∨r=[46]∨r=[46,46]):=by simp
    by_cases h3:r=[]∨r=[46]∨r=[46,46]
    ·rw [if_pos (this.2 h3),if_pos (.inr h3)]
    ·rw [if_neg (fun q=>h3 (this.1 q)),if_neg (fun q=>q.elim h2 h3)]
 ·rw [if_neg h,if_neg h]
  rfl

theorem refMark_val (n:List UInt8):P_ref07_Mark (n,())=some ((markF n).1,((markF n).2,())):=by
  unfold P_ref07_Mark markF
  dsimp only
  rw [begins_val,begins_val]
  by_cases h:n.take 4=wh
  · have e:n=wh ++ n.drop 4:=by rw [← h,List.take_append_drop]
    rw [if_pos h]
    generalize hr:n.drop 4=r at e
    by_cases h1:r=[46,119,104,46,46,111,112,113]
    · rw [if_pos h1,eqS_true (by rw [e,h1];rfl),sel_true]
    · rw [if_neg h1, eqS_false (by rw [e]; intro q; exact h1 (by simpa [wh] using q)), sel_false, obind_some]
      dsimp only
      have a1:decide (n.take ([46,119,104,46,46,119,104,46]:List UInt8).length=[46,119,104,46,46,119,104,46])=decide (r.take 4=wh):=by
        rw [e]
        apply decide_eq_decide.2
        simp [wh]
      have a2:eqS n [46,119,104,46]=decide (r=[]):=by
        rw [e]
        unfold eqS
        apply decide_eq_decide.2
        simp [wh]
      have a3:eqS n [46,119,104,46,46]=decide (r=[46]):=by
        rw [e]
        unfold eqS
        apply decide_eq_decide.2
        simp [wh]
      have a4:eqS n [46,119,104,46,46,46]=decide (r=[46,46]):=by
        rw [e]
        unfold eqS
        apply decide_eq_decide.2
        simp [wh]
      have a5:decide (n.take ([46,119,104,46]:List UInt8).length=[46,119,104,46])=true:=decide_eq_true h
      rw [a1,a2,a3,a4,a5]
      have hs:sel (sel (nt (sel (nt (sel (nt (decide (r.take 4=wh))) (decide (r=[])) true)) (decide (r=[46])) true)) (decide (r=[46,46])) true)=fun (x y:Option (Int×List UInt8×Unit))=>if r.take 4=wh∨r=[]∨r=[46]∨r=[46,46] then x else y:=by
        funext x y
        by_cases b1:r.take 4=wh
        · rw [if_pos (.inl b1)];simp [b1,sel,nt]
        · by_cases b2 : r = []
          · rw [if_pos (.inr (.inl b2))];simp [b2,sel,nt]
          · by_cases b3 : r = [46]
            · rw [if_pos (.inr (.inr (.inl b3)))];simp [b3,sel,nt]
            · by_cases b4:r=[46,46]
              · rw [if_pos (.inr (.inr (.inr b4)))];simp [b4,sel,nt]
              · rw [if_neg (by simp [b1,b2,b3,b4])];simp [b1,b2,b3,b4,sel,nt]
      rw [hs]
      dsimp only
      by_cases b:r.take 4=wh∨r=[]∨r=[46]∨r=[46,46]
      · rw [if_pos b,if_pos b]
      · rw [if_neg b,if_neg b,obind_some]
        dsimp only
        have hl:4≤n.length:=by rw [e];simp [wh]
        rw [sel_true,show inside 4 (len n) (len n)=true from inside_true (by decide) (by rw [len_eq];omega) (Int.le_refl _),sel_true,show sub n 4 (minus (len n) 4)=n.drop 4 from sub_drop n 4 hl,hr]
  · rw [if_neg h]
    have n1:n ≠ [46,119,104,46,46,119,104,46,46,111,112,113]:=fun q=>h (by rw [q];rfl)
    have n2:n ≠ [46,119,104,46]:=fun q=>h (by rw [q];rfl)
    have n3:n ≠ [46,119,104,46,46]:=fun q=>h (by rw [q];rfl)
    have n4:n ≠ [46,119,104,46,46,46]:=fun q=>h (by rw [q];rfl)
    have n5:¬ n.take ([46,119,104,46,46,119,104,46]:List UInt8).length=[46,119,104,46,46,119,104,46]:=fun q=>h (by
      have:=congrArg (List.take 4) q
      rw [List.take_take] at this
      exact this)
    rw [eqS_false n1,sel_false,obind_some]
    dsimp only
    rw [decide_eq_false n5,eqS_false n2,eqS_false n3,eqS_false n4]
    rw [show sel (sel (nt (sel (nt (sel (nt false) false true)) false true)) false true)=fun (x y:Option (Int×List UInt8×Unit))=>y from rfl]
    dsimp only
    rw [obind_some]
    dsimp only
    rw [decide_eq_false (by exact h),sel_false]

/-! ### awake -/
theorem sel_and {a b:Bool}:sel a b false=(a && b):=by cases a <;> rfl

/-! ### What is clean stays as it is -/
theorem cleanF_ok {s:List UInt8} (h:(cleanF s).2=0):cleanOk s=true∧(cleanF s).1=joinS (names s):=by
 unfold cleanF at h ⊢
 cases hc:cleanOk s with
 | true=>simp
 | false=>rw [hc] at h;simp at h

theorem clean_names {s:List UInt8} (h:cleanOk s=true):(names s).all isNm=true∧(names s).length≤8∧(joinS (names s)).length≤96:=by
 unfold cleanOk at h
 simp only [Bool.and_eq_true,decide_eq_true_eq] at h
 exact ⟨h.1.1.1,h.1.2,h.2⟩

theorem head_joinS {l:List (List UInt8)} (h:∀ x ∈ l,47 ∉ x∧x ≠ []):(joinS l).head? ≠ some 47:=by
  cases l with
  | nil=>simp [joinS]
  | cons x r =>
    obtain ⟨h1,h2⟩:=h x (List.mem_cons_self ..)
    have e:(joinS (x :: r)).head? = x.head?:=by
      cases x with
      | nil=>exact absurd rfl h2
      | cons b x=>cases r <;> simp [joinS]
    rw [e]
    cases x with
    | nil=>exact absurd rfl h2
    | cons b x =>
      intro q
      have:b=47:=Option.some.inj q
      exact h1 (by rw [this];exact List.mem_cons_self ..)

theorem joinP_fold (l:List (List UInt8)) (a:List (List UInt8)) (h:∀ x ∈ a ++ l,47 ∉ x∧x ≠ []):l.foldl joinP (joinS a)=joinS (a ++ l):=by
  induction l generalizing a with
  | nil=>simp
  | cons x r ih =>
    have hx:=h x (by simp)
    have e:joinP (joinS a) x=joinS (a ++ [x]):=by
      unfold joinP
      cases a with
      | nil=>rw [joinS,if_pos (.inl rfl)];rfl
      | cons y q =>
        have hne:joinS (y :: q) ≠ []:=by
          have:=(h y (by simp)).2
          cases q with
          | nil=>rw [joinS];exact this
          | cons z q=>rw [joinS];simp
        rw [if_neg (by simp [hne,hx.2])]
        have gen:∀ (y:List UInt8) (q:List (List UInt8)),joinS (y :: q ++ [x])=joinS (y :: q) ++ 47 :: x:=by
          intro y q
          induction q generalizing y with
          | nil=>rfl
          | cons z q ih2 =>
            rw [List.cons_append,List.cons_append,joinS,← List.cons_append,ih2 z]
            rw [joinS]
            simp
        exact (gen y q).symm
    rw [List.foldl_cons,e,ih (a ++ [x]) (by intro z hz;exact h z (by simpa using hz))]
    simp

theorem splitF_join {l:List (List UInt8)} (h:∀ x ∈ l,47 ∉ x∧x ≠ []) (hne:l ≠ []):splitF (joinS l)=(joinS l.dropLast,l.getLast hne):=by
 have hs:splitS (joinS l)=l:=splitS_joinS l hne fun x hx=>(h x hx).1
 rcases split_cases (joinS l) with ⟨h1,h2⟩ | ⟨a,b,h0,h1,h2⟩
 ·rw [splitS_plain _ h1] at hs
  rw [h2]
  generalize joinS l=p at hs
  subst hs
  rfl
 ·rw [h2]
  rw [h0,splitS_snoc a b h1] at hs
  subst hs
  rw [List.dropLast_concat,List.getLast_concat,joinS_splitS]

end Go.Ge

/- Trees: nodes, and what may be one, in plain words. -/
namespace Go.Ge
set_option linter.unusedVariables false
set_option linter.unusedSimpArgs false

abbrev Nd:=List UInt8×Int×Int×List UInt8×List UInt8×Unit

/-! ### Paths -/
theorem leI_iff {a b:Int}:(leI a b=true) ↔ a≤b:=by
 constructor
 ·intro h
  rcases Int.lt_or_le b a with g | g
  ·rw [leI_false g] at h;cases h
  ·exact g
 ·exact leI_true
theorem leI_dec {a b:Int}:leI a b=decide (a≤b):=by
 rw [Bool.eq_iff_iff,leI_iff,decide_eq_true_eq]
theorem clean_same {p:List UInt8} (hp:p ≠ []):((cleanF p).2=0∧(cleanF p).1=p) ↔ ((parts p).all isNm=true∧(parts p).length≤8∧p.length≤96):=by
 constructor
 ·rintro ⟨h1,h2⟩
  obtain ⟨h3,h4⟩:=cleanF_ok h1
  obtain ⟨h5,h6,h7⟩:=clean_names h3
  have e:joinS (names p)=p:=by rw [← h4,h2]
  have e2:parts p=names p:=by
   have:=parts_names p
   rw [e] at this
   exact this
  rw [e2]
  refine ⟨h5,h6,?_⟩
  rw [e] at h7
  exact h7
 ·rintro ⟨h1,h2,h3⟩
  have hk:∀ x ∈ parts p,keepN x=true:=fun x hx=>by
   have:=List.all_eq_true.1 h1 x hx
   unfold isNm at this
   have:=of_decide_eq_true this
   unfold keepN
   refine decide_eq_true ⟨fun e=>?_,this.1⟩
   subst e
   exact absurd this.2.2.1 (by decide)
  have hn:names p=parts p:=List.filter_eq_self.2 hk
  have hj:joinS (names p)=p:=by rw [hn,joinS_parts]
  have hh:p.head? ≠ some 47:=by
   rw [← hj]
   exact head_joinS fun x hx=>⟨(names_mem p x hx).1,(names_mem p x hx).2.1⟩
  have hc:cleanOk p=true:=by
   unfold cleanOk
   rw [hj,hn]
   simp [h1,h2,h3,hh]
  unfold cleanF
  rw [if_pos hc]
  exact ⟨rfl,hj⟩

def okPath (p:List UInt8):Bool:=decide (p ≠ []) && (parts p).all isNm && decide ((parts p).length≤8) && decide (p.length≤92) && decide ((splitF p).2.length≤28) && decide ((markF (splitF p).2).1=0)

theorem isPath_val (p:List UInt8) (hp:p.length≤4096):P_tree_isPath (p,())=some (okPath p,()):=by
 unfold P_tree_isPath
 dsimp only
 rw [clean_val p hp,obind_some,psplit_val p (by omega),obind_some]
 dsimp only
 rw [mark_val,obind_some]
 dsimp only
 rw [sel_and,sel_and,sel_and,sel_and,sel_and]
 congr 2
 rw [Bool.eq_iff_iff]
 unfold okPath
 by_cases h0:p=[]
 ·subst h0;simp [eqS,nt]
 ·have hc:=clean_same h0
  simp only [Bool.and_eq_true,decide_eq_true_eq,eqI,eqS,nt_eq,leI_iff,len,Bool.not_eq_true',decide_eq_false_iff_not]
  constructor
  ·rintro ⟨⟨⟨⟨a1,a2⟩,a3⟩,a4,a5⟩,a6⟩
   obtain ⟨b1,b2,b3⟩:=hc.1 ⟨a1,a2⟩
   exact ⟨⟨⟨⟨⟨h0,b1⟩,b2⟩,by omega⟩,by omega⟩,a6⟩
  ·rintro ⟨⟨⟨⟨⟨_,b1⟩,b2⟩,b3⟩,b4⟩,b5⟩
   obtain ⟨a1,a2⟩:=hc.2 ⟨b1,b2,by omega⟩
   exact ⟨⟨⟨⟨a1,a2⟩,h0⟩,by omega,by omega⟩,b5⟩

def kindF (n:Nd):Bool:=if n.2.1=1 then decide (n.2.2.2.2.1=[]∧n.2.2.2.1.length≤8192) else if n.2.1=2 then decide (n.2.2.2.2.1=[]∧n.2.2.2.1=[]) else if n.2.1=3 then decide (n.2.2.2.1=[]∧n.2.2.2.2.1 ≠ []∧n.2.2.2.2.1.length≤100∧0 ∉ n.2.2.2.2.1) else false
def mayF (n:Nd):Bool:=okPath n.1 && decide (0≤n.2.2.1) && decide (n.2.2.1≤4095) && kindF n

theorem indexByte_val (s:List UInt8) (c:UInt8):P_strings_IndexByte (s,(u8 c,()))=some (Lib.indexByte s c,()):=by
 have:(show Int from u8 c).toNat.toUInt8=c:=by simp [u8]
 unfold P_strings_IndexByte P_internal_stringslite_IndexByte
 dsimp only
 rw [this]
 rfl

theorem tis_val (n:Nd) (hp:n.1.length≤4096):P_tree_is (n,())=some (mayF n,()):=by
  obtain ⟨p,k,m,d,l,u⟩:=n
  unfold P_tree_is mayF kindF
  dsimp only
  rw [isPath_val p hp,obind_some]
  dsimp only
  have e1:ltI m 0 = !decide (0≤m):=by unfold ltI;by_cases h:m < 0 <;> simp [h] <;> omega
  have e2:ltI 4095 m = !decide (m≤4095):=by unfold ltI;by_cases h:4095 < m <;> simp [h] <;> omega
  rw [e1,e2]
  cases okPath p with
  | false=>rfl
  | true =>
    cases decide (0≤m) with
    | false=>rfl
    | true =>
      cases decide (m≤4095) with
      | false=>rfl
      | true =>
        simp only [nt_true,nt_false,sel_true,sel_false,Bool.not_true,Bool.true_and]
        by_cases k1:k=1
        · subst k1
          simp only [eqI,decide_true,sel_true,if_true,eqS,leI_dec,len,sel_and]
          congr 2
          rw [Bool.eq_iff_iff];simp;intro _;omega
        · rw [show eqI k 1 = false by simp [eqI, k1], sel_false, if_neg k1]
          by_cases k2:k=2
          · subst k2
            simp only [eqI,decide_true,sel_true,if_true,eqS,leI_dec,len,sel_and]
            congr 2
            rw [Bool.eq_iff_iff];simp
          · rw [show eqI k 2 = false by simp [eqI, k2], sel_false, if_neg k2]
            by_cases k3:k=3
            · subst k3
              rw [show eqI 3 3=true by rfl,sel_true,if_pos rfl,sel_and,sel_and,show ((l,((0:Int),())):List UInt8×Int×Unit)=(l,(u8 0,())) by rfl,indexByte_val,obind_some]
              dsimp only
              have e3:ltI (Lib.indexByte l 0) 0=decide (0 ∉ l):=indexByte_nul l
              rw [e3]
              by_cases hd:d=[]
              · by_cases hl : l = []
                · subst hd hl;rfl
                · by_cases h1:l.length≤100
                  · simp [eqS,hd,hl,leI_dec,len,nt,sel,obind,h1,show (l.length:Int)≤100 by omega]
                  · simp [eqS,hd,hl,leI_dec,len,nt,sel,obind,h1,show ¬ (l.length:Int)≤100 by omega]
              · simp [eqS,hd,sel,obind]
            · rw [show eqI k 3=false by simp [eqI,k3],sel_false,if_neg k3]

theorem isLink_val (s:List UInt8) (hs:s.length≤1048576):P_ref14_IsLink (s,())=some (decide (s ≠ []∧s.length≤100∧0 ∉ s),()):=by
 unfold P_ref14_IsLink
 rcases srch (f:=P_ref14_IsLink_L0 (s,())) s (fun i=>((false,(i,())),())) (fun _ x=>decide (x=0)) (fun i x=>(1,((false,((i:Int),())),()))) ((0:Nat),((false,((s.length:Int),())),())) (by omega) (fun i x hx hi ha=>by
   unfold P_ref14_IsLink_L0
   dsimp only
   rw [ltI_len_true hi,sel_true,idx_some' hx,obind_some,u8_0,sel_if,ha]
   by_cases h0:x=0 <;> simp [h0]) (by unfold P_ref14_IsLink_L0;dsimp only;rw [ltI_len_end,sel_false]) with ⟨i,x,hx,hp,_,h⟩ | ⟨hn,h⟩
 ·rw [h,obind_some,eqN_one,sel_false]
  have:x=0:=of_decide_eq_true hp
  subst this
  have hm:(0:UInt8) ∈ s:=mem_at.2 ⟨i,hx⟩
  rw [decide_eq_false (by rintro ⟨_,_,h⟩;exact h hm)]
 ·rw [h,obind_some,eqN_zero,sel_true,sel_and]
  have hm:(0:UInt8) ∉ s:=fun hm=>by
   obtain ⟨i,hi⟩:=mem_at.1 hm
   have:=hn i 0 hi
   exact absurd this (by decide)
  congr 2
  rw [Bool.eq_iff_iff]
  simp only [Bool.and_eq_true,leI_iff,len,decide_eq_true_eq]
  constructor
  ·rintro ⟨h1,h2⟩;exact ⟨fun e=>by rw [e] at h1;simp at h1,by omega,hm⟩
  ·rintro ⟨h1,h2,_⟩;exact ⟨by have:=List.length_pos_iff.2 h1;omega,by omega⟩

theorem t14_may_val (n:Nd) (hp:n.1.length≤4096) (hl:n.2.2.2.2.1.length≤4096):P_ref14_May (n,())=some (mayF n,()):=by
  obtain ⟨p,k,m,d,l,u⟩:=n
  unfold P_ref14_May mayF kindF
  dsimp only at hp hl ⊢
  rw [refSplit_val p hp,obind_some]
  dsimp only
  rw [refMark_val,obind_some,refIs_val p (by omega),isLink_val l (by omega)]
  simp only [obind_some,sel_and]
  have e0:(sel (nt (eqS p [])) (some ((parts p).all isNm && decide ((parts p).length≤8) && decide (p.length≤96))) (some false):Option Bool)=some (decide (p ≠ []) && (parts p).all isNm && decide ((parts p).length≤8) && decide (p.length≤96)):=by
    by_cases h:p=[]
    · subst h;rfl
    · simp [eqS,h,sel,nt]
  rw [e0,obind_some]
  have e1:((((((decide (p ≠ []) && (parts p).all isNm && decide ((parts p).length≤8) && decide (p.length≤96)) && leI (len p) 92) && leI (len (splitF p).2) 28) && eqI (markF (splitF p).2).1 0) && leI 0 m) && leI m 4095)=(okPath p && decide (0≤m) && decide (m≤4095)):=by
    rw [Bool.eq_iff_iff]
    unfold okPath
    simp only [Bool.and_eq_true,leI_iff,len,eqI,decide_eq_true_eq]
    constructor
    · rintro ⟨⟨⟨⟨⟨⟨⟨⟨a1,a2⟩,a3⟩,a4⟩,a5⟩,a6⟩,a7⟩,a8⟩,a9⟩
      exact ⟨⟨⟨⟨⟨⟨⟨a1,a2⟩,a3⟩,by omega⟩,by omega⟩,a7⟩,a8⟩,a9⟩
    · rintro ⟨⟨⟨⟨⟨⟨⟨a1,a2⟩,a3⟩,a5⟩,a6⟩,a7⟩,a8⟩,a9⟩
      exact ⟨⟨⟨⟨⟨⟨⟨⟨a1,a2⟩,a3⟩,by omega⟩,by omega⟩,by omega⟩,a7⟩,a8⟩,a9⟩
  simp only [e1]
  generalize (okPath p && decide (0≤m) && decide (m≤4095))=c
  by_cases k1:k=1
  · subst k1
    rw [show eqI 1 1=true by rfl,sel_true,if_pos rfl]
    congr 2
    rw [Bool.and_assoc]
    congr 1
    rw [Bool.eq_iff_iff];simp [eqS,leI_dec,len];intro _;omega
  · rw [show eqI k 1 = false by simp [eqI, k1], sel_false, if_neg k1]
    by_cases k2:k=2
    · subst k2
      rw [show eqI 2 2=true by rfl,sel_true,if_pos rfl]
      congr 2
      rw [Bool.and_assoc]
      congr 1
      rw [Bool.eq_iff_iff];simp [eqS]
    · rw [show eqI k 2 = false by simp [eqI, k2], sel_false, if_neg k2]
      by_cases k3:k=3
      · subst k3
        rw [show eqI 3 3=true by rfl,sel_true,if_pos rfl]
        cases c with
        | false=>rfl
        | true =>
          by_cases hd:d=[]
          · simp [eqS,hd,sel,obind]
          · simp [eqS,hd,sel,obind]
      · rw [show eqI k 3=false by simp [eqI,k3],sel_false,if_neg k3,Bool.and_false]
end Go.Ge

/- Trees: where a path lies, in plain words. -/
namespace Go.Ge
set_option linter.unusedVariables false
set_option linter.unusedSimpArgs false

def Sm (n:Nd):Prop:=n.1.length≤200∧n.2.2.2.2.1.length≤300∧n.2.2.2.1.length≤8192
def SmL (l:List Nd):Prop:=l.length≤4096∧∀ x ∈ l,Sm x

def key (n:Nd):List (List UInt8):=parts n.1
def cmp (n:Nd) (p:List UInt8):Int:=cmpL (parts n.1) (parts p)

theorem SmL.at {l:List Nd} (h:SmL l) {i:Nat} {x:Nd} (hx:l[i]? = some x):Sm x:=h.2 x (List.mem_of_getElem? hx)
theorem SmL.take {l:List Nd} (h:SmL l) (k:Nat):SmL (l.take k):=⟨by rw [List.length_take];have:=h.1;omega,fun x hx=>h.2 x (List.mem_of_mem_take hx)⟩

theorem placeC_val (n:Nd) (p:List UInt8) (hn:n.1.length≤4096) (hp:p.length≤4096):P_tree_place_c1 (n,(p,()))=some (cmp n p,()):=by
 unfold P_tree_place_c1
 dsimp only
 rw [compare_val _ _ hn hp,obind_some]
 rfl

theorem mid_val {a b:Nat} (ha:a≤1048576) (hb:b≤1048576):icv .i64 (ishr .u64 (icv .u64 (iadd .i64 (a:Int) (b:Int))) 1)=(((a + b) / 2:Nat):Int):=by
 rw [iadd_i64 (by omega) (by omega),icv_u64 (by omega) (by omega)]
 have e:ishr .u64 ((a:Int) + (b:Int)) 1=(((a + b) / 2:Nat):Int):=by
  unfold ishr
  rw [show (1:Int).toNat=1 from rfl]
  have e2:((a:Int) + b).fdiv 2=((a:Int) + b) / 2:=Int.fdiv_eq_ediv_of_nonneg _ (by omega)
  have e3:(2:Int) ^ min 1 IntKind.u64.bits=2:=by decide
  simp [e3,e2]
 rw [e,icv_i64 (by omega) (by omega)]

theorem place_run (l:List Nd) (p:List UInt8) (hl:SmL l) (hp:p.length≤4096):∀ (n lo hi:Nat),hi - lo≤n→lo≤hi→hi≤l.length →
    ∃ k:Nat,lo≤k∧k≤hi∧Loop (P_tree_place_L0 (l,(p,()))) (((lo:Int),((hi:Int),())),())=some (((k:Int),((k:Int),())),()) ∧
      ((∀ (i j : Nat) (x y : Nd), i ≤ j → l[i]? = some x → l[j]? = some y → cmp y p < 0 → cmp x p < 0) → (∀ (j : Nat) (y : Nd), j < lo → l[j]? = some y → cmp y p < 0) → (∀ (j : Nat) (y : Nd), hi ≤ j → l[j]? = some y → ¬ cmp y p < 0) →
        (∀ (j:Nat) (y:Nd),j < k→l[j]? = some y→cmp y p < 0)∧(∀ (j:Nat) (y:Nd),k≤j→l[j]? = some y→¬ cmp y p < 0)):=by
  intro n
  induction n with
  | zero =>
    intro lo hi h1 h2 h3
    obtain rfl:hi=lo:=by omega
    refine ⟨hi,Nat.le_refl _,Nat.le_refl _,?_,fun _ a b=>⟨a,b⟩⟩
    rw [Loop_eq]
    unfold P_tree_place_L0
    dsimp only
    rw [ltI_false (Int.le_refl _),sel_false]
    rfl
  | succ n ih =>
    intro lo hi h1 h2 h3
    by_cases h:hi=lo
    · subst h
      exact ih hi hi (by omega) (Nat.le_refl _) h3
    · have h4:=hl.1
      have hm:(lo + hi) / 2 < l.length:=by omega
      obtain ⟨x,hx⟩:∃ x,l[(lo + hi) / 2]? = some x:=⟨_,List.getElem?_eq_getElem hm⟩
      have hstep:P_tree_place_L0 (l,(p,())) (((lo:Int),((hi:Int),())),())=some (.inl (if cmp x p < 0 then (((((lo + hi) / 2 + 1:Nat):Int),((hi:Int),())),()) else (((lo:Int),((((lo + hi) / 2:Nat):Int),())),()))):=by
        unfold P_tree_place_L0
        dsimp only
        rw [ltI_true (by omega),sel_true,ltI_false (by decide),sel_false,mid_val (by omega) (by omega),idx_some' hx,obind_some,placeC_val x p (by have:=(hl.at hx).1;omega) hp,obind_some]
        dsimp only
        rw [iadd_one (by omega)]
        by_cases hc:cmp x p < 0
        · rw [ltI_true hc,if_pos hc];rfl
        · rw [ltI_false (by omega),if_neg hc];rfl
      rw [Loop_eq,hstep]
      by_cases hc:cmp x p < 0
      · obtain ⟨k,k1,k2,k3,k4⟩:=ih ((lo + hi) / 2 + 1) hi (by omega) (by omega) h3
        refine ⟨k,by omega,k2,by rw [if_pos hc];exact k3,fun a b c=>k4 a (fun j y hj hy=>?_) c⟩
        exact a j ((lo + hi) / 2) y x (by omega) hy hx hc
      · obtain ⟨k,k1,k2,k3,k4⟩:=ih lo ((lo + hi) / 2) (by omega) (by omega) (by omega)
        refine ⟨k,k1,by omega,by rw [if_neg hc];exact k3,fun a b c=>k4 a b (fun j y hj hy hy2=>hc (a _ _ x y hj hx hy hy2))⟩

def Ord (l:List Nd):Prop:=∀ (i j:Nat) (x y:Nd),i < j→l[i]? = some x→l[j]? = some y→cmpL (key x) (key y) < 0

theorem Ord.mono {l:List Nd} (h:Ord l) (p:List UInt8):∀ (i j:Nat) (x y:Nd),i≤j→l[i]? = some x→l[j]? = some y→cmp y p < 0→cmp x p < 0:=by
 intro i j x y hij hx hy hc
 rcases Nat.lt_or_ge i j with g | g
 ·exact cmpL_trans (h i j x y g hx hy) hc
 ·obtain rfl:i=j:=by omega
  rw [hx] at hy
  obtain rfl:=Option.some.inj hy
  exact hc
theorem Ord.take {l:List Nd} (h:Ord l) (k:Nat):Ord (l.take k):=fun i j x y hij hx hy=>by
 rw [List.getElem?_take] at hx hy
 split at hx
 ·split at hy
  ·exact h i j x y hij hx hy
  ·cases hy
 ·cases hx

structure Plc (l:List Nd) (p:List UInt8) (k:Nat) (b:Bool):Prop where
 le:k≤l.length
 lo:∀ (j:Nat) (y:Nd),j < k→l[j]? = some y→cmp y p < 0
 hi:∀ (j:Nat) (y:Nd),k≤j→l[j]? = some y→¬ cmp y p < 0
 is:b=true→∃ x,l[k]? = some x∧x.1=p
 no:b=false→∀ x ∈ l,x.1 ≠ p

theorem cmp_zero {n:Nd} {p:List UInt8} (h:cmp n p=0):n.1=p:=by
 have:=cmpL_zero h
 rw [← joinS_parts n.1,this,joinS_parts]
theorem cmp_same {n:Nd} {p:List UInt8} (h:n.1=p):cmp n p=0:=by subst h;exact cmpL_self _

theorem place_val (l:List Nd) (p:List UInt8) (hl:SmL l) (hp:p.length≤4096):∃ (k:Nat) (b:Bool),P_tree_place (l,(p,()))=some ((k:Int),(b,()))∧k≤l.length∧(b=true→k < l.length)∧(Ord l→Plc l p k b):=by
 obtain ⟨k,_,k2,k3,k4⟩:=place_run l p hl hp l.length 0 l.length (by omega) (by omega) (Nat.le_refl _)
 have k3':Loop (P_tree_place_L0 (l,(p,()))) ((0,(len l,())),())=some (((k:Int),((k:Int),())),()):=k3
 have lows:=fun (h:Ord l)=>k4 (h.mono p) (fun j y hj=>by omega) (fun j y hj hy=>by have:=getElem?_lt hy;omega)
 by_cases hk:k < l.length
 ·obtain ⟨x,hx⟩:∃ x,l[k]? = some x:=⟨_,List.getElem?_eq_getElem hk⟩
  refine ⟨k,decide (cmp x p=0),?_,k2,fun _=>hk,fun h=>⟨k2,(lows h).1,(lows h).2,fun hb=>⟨x,hx,cmp_zero (of_decide_eq_true hb)⟩,fun hb y hy e=>?_⟩⟩
  ·unfold P_tree_place
   dsimp only
   rw [k3',obind_some]
   dsimp only
   rw [ltI_len_true hk,sel_true,idx_some' hx,obind_some,placeC_val x p (by have:=(hl.at hx).1;omega) hp,obind_some]
   rfl
  ·obtain ⟨j,hj⟩:=mem_at.1 hy
   have h0:=cmp_same e
   have hne:=of_decide_eq_false hb
   rcases Nat.lt_trichotomy j k with g | g | g
   ·have:=(lows h).1 j y g hj;omega
   ·subst g;rw [hx] at hj;obtain rfl:=Option.some.inj hj;exact hne h0
   ·have h1:=h k j x y g hx hj
    rw [show key y=parts p by unfold key;rw [e]] at h1
    exact (lows h).2 k x (Nat.le_refl _) hx h1
 ·obtain rfl:k=l.length:=by omega
  refine ⟨l.length,false,?_,k2,fun h=>(by cases h),fun h=>⟨k2,(lows h).1,(lows h).2,fun h=>(by cases h),fun hb y hy e=>?_⟩⟩
  ·unfold P_tree_place
   dsimp only
   rw [k3',obind_some]
   dsimp only
   rw [ltI_len_end,sel_false]
  ·obtain ⟨j,hj⟩:=mem_at.1 hy
   have h0:=cmp_same e
   have:=(lows h).1 j y (getElem?_lt hj) hj
   omega

/-! ### Up to the directory -/
def Dir (l:List Nd) (d:List UInt8) (e:Int):Prop:=(d=[]∧e=0)∨(d ≠ []∧(((∀ x ∈ l,x.1 ≠ d)∧e=3)∨∃ x ∈ l,x.1=d∧((x.2.1=2∧e=0)∨(x.2.1 ≠ 2∧e=12))))

theorem dir_val (l:List Nd) (d:List UInt8) (hl:SmL l) (hd:d.length≤4096):∃ e,P_tree_dir (l,(d,()))=some (e,())∧(Ord l→Dir l d e):=by
  unfold P_tree_dir
  dsimp only
  by_cases h0:d=[]
  · subst h0
    exact ⟨0,rfl,fun _=>.inl ⟨rfl,rfl⟩⟩
  · rw [eqS_false h0, sel_false]
    obtain ⟨k,b,h1,h2,h3,h4⟩:=place_val l d hl hd
    rw [h1,obind_some]
    dsimp only
    cases b with
    | false =>
      rw [nt_false,sel_true]
      exact ⟨3,rfl,fun h=>.inr ⟨h0,.inl ⟨(h4 h).no rfl,rfl⟩⟩⟩
    | true =>
      have hk:=h3 rfl
      obtain ⟨x,hx⟩:∃ x,l[k]? = some x:=⟨_,List.getElem?_eq_getElem hk⟩
      rw [nt_true,sel_false,idx_some' hx,obind_some]
      have hw:Ord l→x.1=d:=fun h=>by
        obtain ⟨y,hy,e⟩:=(h4 h).is rfl
        rw [hx] at hy
        rw [Option.some.inj hy,e]
      by_cases hk2:x.2.1=2
      · refine ⟨0,?_,fun h=>.inr ⟨h0,.inr ⟨x,List.mem_of_getElem? hx,hw h,.inl ⟨hk2,rfl⟩⟩⟩⟩
        rw [eqI_true hk2];rfl
      · refine ⟨12,?_,fun h=>.inr ⟨h0,.inr ⟨x,List.mem_of_getElem? hx,hw h,.inr ⟨hk2,rfl⟩⟩⟩⟩
        rw [show eqI x.2.1 2=false by simp [eqI,hk2]];rfl

/-! ### The reference's search -/
theorem find_val (l:List Nd) (p:List UInt8) (hl:SmL l):(∃ (i:Nat) (x:Nd),l[i]? = some x∧x.1=p∧P_ref14_find (l,(p,()))=some ((i:Int),()))∨((∀ x ∈ l,x.1 ≠ p)∧P_ref14_find (l,(p,()))=some (-1,())):=by
 unfold P_ref14_find
 rcases srch (f:=P_ref14_find_L0 (l,(p,()))) l (fun i=>((0,(i,())),())) (fun _ x=>decide (x.1=p)) (fun i x=>(1,(((i:Int),((i:Int),())),()))) ((0:Nat),((0,((l.length:Int),())),())) (by have:=hl.1;omega) (fun i x hx hi ha=>by
   unfold P_ref14_find_L0
   dsimp only
   rw [ltI_len_true hi,sel_true,idx_some' hx,obind_some,eqS_iff,ha]
   by_cases h:x.1=p <;> simp [h,sel]) (by unfold P_ref14_find_L0;dsimp only;rw [ltI_len_end,sel_false]) with ⟨i,x,hx,hp,_,h⟩ | ⟨hn,h⟩
 ·left
  refine ⟨i,x,hx,of_decide_eq_true hp,?_⟩
  rw [h];rfl
 ·right
  refine ⟨fun x hx e=>?_,by rw [h];rfl⟩
  obtain ⟨i,hi⟩:=mem_at.1 hx
  have:=hn i x hi
  simp [e] at this

theorem refDir_val (l:List Nd) (d:List UInt8) (hl:SmL l):∃ b,P_ref14_dir (l,(d,()))=some (b,())∧(b=true→d=[]∨∃ x ∈ l,x.1=d∧x.2.1=2)∧(Ord l→b=false→d ≠ []∧∀ x ∈ l,x.1=d→x.2.1 ≠ 2):=by
 unfold P_ref14_dir
 dsimp only
 by_cases h0:d=[]
 ·subst h0
  rcases find_val l [] hl with ⟨i,x,hx,hxp,h⟩ | ⟨_,h⟩ <;> rw [h,obind_some] <;> exact ⟨true,rfl,fun _=>.inl rfl,fun _ h=>by cases h⟩
 ·rcases find_val l d hl with ⟨i,x,hx,hxp,h⟩ | ⟨hn,h⟩
  ·rw [h,obind_some,eqS_false h0,nt_false,sel_true]
   dsimp only
   rw [leI_true (by omega),sel_true,idx_some' hx,obind_some,obind_some,obind_some]
   refine ⟨_,rfl,fun hb=>.inr ⟨x,List.mem_of_getElem? hx,hxp,of_decide_eq_true hb⟩,fun ho hb=>⟨h0,fun y hy hyd hk=>?_⟩⟩
   have hne:=of_decide_eq_false hb
   obtain ⟨j,hj⟩:=mem_at.1 hy
   have hkk:key x=key y:=by unfold key;rw [hxp,hyd]
   rcases Nat.lt_trichotomy i j with g | g | g
   ·have:=ho i j x y g hx hj;rw [hkk,cmpL_self] at this;omega
   ·subst g;rw [hx] at hj;obtain rfl:=Option.some.inj hj;exact hne hk
   ·have:=ho j i y x g hj hx;rw [hkk,cmpL_self] at this;omega
  ·rw [h,obind_some,eqS_false h0,nt_false,sel_true]
   exact ⟨false,rfl,fun h=>(by cases h),fun _ _=>⟨h0,fun x hx e=>absurd e (hn x hx)⟩⟩
end Go.Ge

/- Trees as they may be. -/
namespace Go.Ge
set_option linter.unusedVariables false
set_option linter.unusedSimpArgs false

structure Valid (l:List Nd):Prop where
 few:l.length≤64
 ord:Ord l
 may:∀ x ∈ l,mayF x=true
 up:∀ x ∈ l,(splitF x.1).1=[]∨∃ y ∈ l,y.1=(splitF x.1).1∧y.2.1=2

theorem splitF_len (p:List UInt8):(splitF p).1.length≤p.length:=by
 rcases split_cases p with ⟨_,h⟩ | ⟨a,b,h1,_,h⟩
 ·rw [h];simp
 ·rw [h,h1];simp
theorem parent_key {p:List UInt8} (h:(splitF p).1 ≠ []):parts p=parts (splitF p).1 ++ [(splitF p).2]:=by
 rcases split_cases p with ⟨_,e⟩ | ⟨a,b,e1,e2,e⟩
 ·rw [e] at h;exact absurd rfl h
 ·rw [e] at h ⊢
  have hp:p ≠ []:=by rw [e1];simp
  unfold parts
  rw [if_neg hp,if_neg h,e1]
  exact splitS_snoc a b e2

theorem Ord.uniq {l:List Nd} (h:Ord l) {x y:Nd} (hx:x ∈ l) (hy:y ∈ l) (e:x.1=y.1):x=y:=by
 obtain ⟨i,hi⟩:=mem_at.1 hx
 obtain ⟨j,hj⟩:=mem_at.1 hy
 have hk:key x=key y:=by unfold key;rw [e]
 rcases Nat.lt_trichotomy i j with g | g | g
 ·have:=h i j x y g hi hj;rw [hk,cmpL_self] at this;omega
 ·subst g;rw [hi] at hj;exact Option.some.inj hj
 ·have:=h j i y x g hj hi;rw [hk,cmpL_self] at this;omega

theorem ord_of_adj {l:List Nd} (h:∀ (k:Nat) (x y:Nd),l[k]? = some x→l[k + 1]? = some y→cmpL (key x) (key y) < 0):Ord l:=by
  have run:∀ (d i:Nat) (x y:Nd),l[i]? = some x→l[i + 1 + d]? = some y→cmpL (key x) (key y) < 0:=by
    intro d
    induction d with
    | zero=>intro i x y hx hy;exact h i x y hx hy
    | succ d ih =>
      intro i x y hx hy
      have hl:=getElem?_lt hy
      obtain ⟨z,hz⟩:∃ z,l[i + 1 + d]? = some z:=⟨_,List.getElem?_eq_getElem (by omega)⟩
      exact cmpL_trans (ih i x z hx hz) (h (i + 1 + d) z y hz hy)
  intro i j x y hij hx hy
  exact run (j - i - 1) i x y hx (by rw [show i + 1 + (j - i - 1)=j by omega];exact hy)

def prevC (l:List Nd) (i:Nat) (x:Nd):Bool:=match i with
  | 0=>false
  | k + 1 => match l[k]? with
    | some y=>decide (0≤cmpL (key y) (key x))
    | none=>false

theorem prevC_succ {l:List Nd} {k:Nat} {x y:Nd} (hy:l[k]? = some y):prevC l (k + 1) x=decide (0≤cmpL (key y) (key x)):=by
 show (match l[k]? with | some y=>decide (0≤cmpL (key y) (key x)) | none=>false)=_
 rw [hy]

noncomputable def dirE (l:List Nd) (d:List UInt8):Int:=match P_tree_dir (l,(d,())) with
 | some y=>y.1
 | none=>0
theorem dirE_val (l:List Nd) (d:List UInt8) (hl:SmL l) (hd:d.length≤4096):P_tree_dir (l,(d,()))=some (dirE l d,())∧(Ord l→Dir l d (dirE l d)):=by
 obtain ⟨e,h1,h2⟩:=dir_val l d hl hd
 have:dirE l d=e:=by unfold dirE;rw [h1]
 rw [this];exact ⟨h1,h2⟩
noncomputable def rdirB (l:List Nd) (d:List UInt8):Bool:=match P_ref14_dir (l,(d,())) with
 | some y=>y.1
 | none=>false
theorem rdirB_val (l:List Nd) (d:List UInt8) (hl:SmL l):P_ref14_dir (l,(d,()))=some (rdirB l d,())∧(rdirB l d=true→d=[]∨∃ x ∈ l,x.1=d∧x.2.1=2)∧(Ord l→rdirB l d=false→d ≠ []∧∀ x ∈ l,x.1=d→x.2.1 ≠ 2):=by
 obtain ⟨e,h1,h2,h3⟩:=refDir_val l d hl
 have:rdirB l d=e:=by unfold rdirB;rw [h1]
 rw [this];exact ⟨h1,h2,h3⟩

theorem prevC_adj {l:List Nd} (h:∀ (i:Nat) (x:Nd),l[i]? = some x→prevC l i x=false):Ord l:=ord_of_adj fun k x y hx hy=>by
 have:=h (k + 1) y hy
 rw [prevC_succ hx] at this
 have:=of_decide_eq_false this
 omega
theorem prevC_ord {l:List Nd} (h:Ord l) {i:Nat} {x:Nd} (hx:l[i]? = some x):prevC l i x=false:=by
  cases i with
  | zero=>rfl
  | succ k =>
    have hl:=getElem?_lt hx
    obtain ⟨y,hy⟩:∃ y,l[k]? = some y:=⟨_,List.getElem?_eq_getElem (by omega)⟩
    rw [prevC_succ hy]
    have:=h k (k + 1) y x (by omega) hy hx
    exact decide_eq_false (by omega)

theorem up_before {l:List Nd} (h:Ord l) {i:Nat} {x y:Nd} (hx:l[i]? = some x) (hy:y ∈ l) (hu:(splitF x.1).1 ≠ []) (e:y.1=(splitF x.1).1):y ∈ l.take i:=by
 obtain ⟨j,hj⟩:=mem_at.1 hy
 have hc:cmpL (key y) (key x) = -1:=by
  unfold key
  rw [e,parent_key hu]
  exact cmpL_app _ _ (by simp)
 rcases Nat.lt_or_ge j i with g | g
 ·exact List.mem_of_getElem? (i:=j) (by rw [List.getElem?_take,if_pos g];exact hj)
 ·exfalso
  rcases Nat.lt_or_ge i j with g2 | g2
  ·have:=cmpL_trans (h i j x y g2 hx hj) (show cmpL (key y) (key x) < 0 by omega)
   rw [cmpL_self] at this;omega
  ·obtain rfl:i=j:=by omega
   rw [hx] at hj
   obtain rfl:=Option.some.inj hj
   rw [cmpL_self] at hc;omega

theorem check_val' (l:List Nd) (hl:SmL l):∃ e,P_tree_Check (l,())=some (e,())∧(e=0 ↔ Valid l):=by
  unfold P_tree_Check
  dsimp only
  have h64:ltI 64 (len l)=decide (64 < l.length):=by unfold ltI len;apply decide_eq_decide.2;omega
  rw [h64]
  by_cases h0:64 < l.length
  · rw [decide_eq_true h0,sel_true]
    exact ⟨1,rfl,fun h=>by omega,fun h=>by have:=h.few;omega⟩
  · rw [decide_eq_false h0, sel_false]
    have hsp:∀ {i:Nat} {x:Nd},l[i]? = some x→(splitF x.1).1.length≤4096:=fun {i x} hx=>by have:=(hl.at hx).1;have:=splitF_len x.1;omega
    rcases srch (f:=P_tree_Check_L0 (l,())) l (fun i=>((0,(i,())),())) (fun i x=>!mayF x || prevC l i x || decide (dirE (l.take i) (splitF x.1).1 ≠ 0)) (fun i x=>(1,((1,((i:Int),())),()))) ((0:Nat),((0,((l.length:Int),())),())) (by have:=hl.1;omega) (fun i x hx hi ha=>by
        unfold P_tree_Check_L0
        dsimp only
        rw [ltI_len_true hi,sel_true,idx_some' hx,obind_some,psplit_val _ (by have:=(hl.at hx).1;omega),obind_some,tis_val _ (by have:=(hl.at hx).1;omega),obind_some]
        dsimp only
        cases hm:mayF x with
        | false=>rfl
        | true =>
          rw [nt_true,sel_false]
          have hin:inside 0 (i:Int) (len l)=true:=inside_len (a:=0) (Nat.zero_le _) (by omega)
          have hdir:=(dirE_val (l.take i) (splitF x.1).1 (hl.take i) (hsp hx)).1
          rw [hin,sel_true,sub_take,hdir,obind_some,ha]
          dsimp only
          cases i with
          | zero =>
            rw [ltI_false (by simp),sel_false]
            generalize dirE (l.take 0) (splitF x.1).1=e
            by_cases hz:e=0
            · rw [eqI_true hz,nt_true,sel_false];simp [prevC,hz]
            · rw [show eqI e 0=false by simp [eqI,hz],nt_false,sel_true];simp [prevC,hz]
          | succ k =>
            obtain ⟨y,hy⟩:∃ y,l[k]? = some y:=⟨_,List.getElem?_eq_getElem (by omega)⟩
            rw [ltI_true (by omega),sel_true,isub_i64 (by omega) (by omega),show (((k + 1:Nat):Int) - 1)=(k:Int) by omega,idx_some' hy,obind_some,compare_val _ _ (by have:=(hl.at hy).1;omega) (by have:=(hl.at hx).1;omega),obind_some]
            dsimp only
            rw [leI_dec]
            rw [prevC_succ hy]
            unfold key
            generalize dirE (l.take (k + 1)) (splitF x.1).1=e
            by_cases hc:0≤cmpL (parts y.1) (parts x.1)
            · rw [decide_eq_true hc,sel_true];simp
            · rw [decide_eq_false hc,sel_false]
              by_cases hz:e=0
              · rw [eqI_true hz,nt_true,sel_false];simp [hz]
              · rw [show eqI e 0=false by simp [eqI,hz],nt_false,sel_true];simp [hz]) (by unfold P_tree_Check_L0;dsimp only;rw [ltI_len_end,sel_false]) with ⟨i,x,hx,hp,_,h⟩ | ⟨hn,h⟩
    · rw [h, obind_some, eqN_one, sel_false]
      refine ⟨1,rfl,fun h=>by omega,fun hv=>?_⟩
      rw [hv.may x (List.mem_of_getElem? hx),prevC_ord hv.ord hx] at hp
      simp only [Bool.not_true,Bool.false_or,decide_eq_true_eq] at hp
      have hd:=(dirE_val (l.take i) (splitF x.1).1 (hl.take i) (hsp hx)).2 (hv.ord.take i)
      rcases hd with ⟨_,e⟩ | ⟨hne,hd⟩
      · exact absurd e hp
      · rcases hv.up x (List.mem_of_getElem? hx) with hu | ⟨y,hy,hy1,hy2⟩
        · exact absurd hu hne
        · have hyt:=up_before hv.ord hx hy hne hy1
          rcases hd with ⟨hno,_⟩ | ⟨z,hz,hz1,⟨_,e⟩ | ⟨hz2,_⟩⟩
          · exact absurd hy1 (hno y hyt)
          · exact absurd e hp
          · have:=hv.ord.uniq (List.mem_of_mem_take hz) hy (by rw [hz1,hy1])
            subst this
            exact absurd hy2 hz2
    · rw [h,obind_some,eqN_zero,sel_true]
      have hn':∀ (i:Nat) (x:Nd),l[i]? = some x→mayF x=true∧prevC l i x=false∧dirE (l.take i) (splitF x.1).1=0:=fun i x hx=>by
        have:=hn i x hx
        simp only [Bool.or_eq_false_iff,Bool.not_eq_false',decide_eq_false_iff_not,Decidable.not_not] at this
        exact ⟨this.1.1,this.1.2,by simpa using this.2⟩
      have ho:Ord l:=prevC_adj fun i x hx=>(hn' i x hx).2.1
      refine ⟨0,rfl,fun _=>⟨by omega,ho,fun x hx=>?_,fun x hx=>?_⟩,fun _=>rfl⟩
      · obtain ⟨i,hi⟩:=mem_at.1 hx
        exact (hn' i x hi).1
      · obtain ⟨i,hi⟩:=mem_at.1 hx
        have hd:=(dirE_val (l.take i) (splitF x.1).1 (hl.take i) (hsp hi)).2 (ho.take i)
        rw [(hn' i x hi).2.2] at hd
        rcases hd with ⟨e,_⟩ | ⟨_,⟨_,e⟩ | ⟨y,hy,hy1,⟨hy2,_⟩ | ⟨_,e⟩⟩⟩
        · exact .inl e
        · omega
        · exact .inr ⟨y,List.mem_of_mem_take hy,hy1,hy2⟩
        · omega

theorem isTree_val (l:List Nd) (hl:SmL l):∃ b,P_ref14_Is (l,())=some (b,())∧(b=true ↔ Valid l):=by
  unfold P_ref14_Is
  dsimp only
  have h64:ltI 64 (len l)=decide (64 < l.length):=by unfold ltI len;apply decide_eq_decide.2;omega
  rw [h64]
  by_cases h0:64 < l.length
  · rw [decide_eq_true h0,sel_true]
    exact ⟨false,rfl,fun h=>(by cases h),fun h=>by have:=h.few;omega⟩
  · rw [decide_eq_false h0, sel_false]
    rcases srch (f:=P_ref14_Is_L0 (l,())) l (fun i=>((false,(i,())),())) (fun i x=>!mayF x || !rdirB l (splitF x.1).1 || prevC l i x) (fun i x=>(1,((false,((i:Int),())),()))) ((0:Nat),((false,((l.length:Int),())),())) (by have:=hl.1;omega) (fun i x hx hi ha=>by
        unfold P_ref14_Is_L0
        dsimp only
        rw [ltI_len_true hi,sel_true,idx_some' hx,obind_some,refSplit_val _ (by have:=(hl.at hx).1;omega),obind_some,obind_some,t14_may_val _ (by have:=(hl.at hx).1;omega) (by have:=(hl.at hx).2.1;omega),obind_some]
        dsimp only
        cases hm:mayF x with
        | false=>rfl
        | true =>
          rw [nt_true,sel_false,(rdirB_val l (splitF x.1).1 hl).1,obind_some]
          dsimp only
          cases hr:rdirB l (splitF x.1).1 with
          | false=>rfl
          | true =>
            rw [nt_true,sel_false,ha]
            cases i with
            | zero=>rw [ltI_false (by simp),sel_false];simp [prevC]
            | succ k =>
              obtain ⟨y,hy⟩:∃ y,l[k]? = some y:=⟨_,List.getElem?_eq_getElem (by omega)⟩
              rw [ltI_true (by omega),sel_true,isub_i64 (by omega) (by omega),show (((k + 1:Nat):Int) - 1)=(k:Int) by omega,idx_some' hy,obind_some,obind_some,refCompare_val _ _ (by have:=(hl.at hy).1;omega) (by have:=(hl.at hx).1;omega),obind_some]
              dsimp only
              rw [leI_dec]
              rw [prevC_succ hy]
              unfold key
              by_cases hc:0≤cmpL (parts y.1) (parts x.1)
              · rw [decide_eq_true hc,sel_true];simp
              · rw [decide_eq_false hc,sel_false];simp) (by unfold P_ref14_Is_L0;dsimp only;rw [ltI_len_end,sel_false]) with ⟨i,x,hx,hp,_,h⟩ | ⟨hn,h⟩
    · rw [h,obind_some,eqN_one,sel_false]
      refine ⟨false,rfl,fun h=>(by cases h),fun hv=>?_⟩
      rw [hv.may x (List.mem_of_getElem? hx),prevC_ord hv.ord hx] at hp
      simp only [Bool.not_true,Bool.false_or,Bool.or_false,Bool.not_eq_true'] at hp
      obtain ⟨g1,g2⟩:=(rdirB_val l (splitF x.1).1 hl).2.2 hv.ord hp
      rcases hv.up x (List.mem_of_getElem? hx) with hu | ⟨y,hy,hy1,hy2⟩
      · exact absurd hu g1
      · exact absurd hy2 (g2 y hy hy1)
    · rw [h,obind_some,eqN_zero,sel_true]
      have hn':∀ (i:Nat) (x:Nd),l[i]? = some x→mayF x=true∧rdirB l (splitF x.1).1=true∧prevC l i x=false:=fun i x hx=>by
        have:=hn i x hx
        simp only [Bool.or_eq_false_iff,Bool.not_eq_false'] at this
        exact ⟨this.1.1,this.1.2,this.2⟩
      refine ⟨true,rfl,fun _=>⟨by omega,prevC_adj fun i x hx=>(hn' i x hx).2.2,fun x hx=>?_,fun x hx=>?_⟩,fun _=>rfl⟩
      · obtain ⟨i,hi⟩:=mem_at.1 hx
        exact (hn' i x hi).1
      · obtain ⟨i,hi⟩:=mem_at.1 hx
        exact (rdirB_val l (splitF x.1).1 hl).2.1 (hn' i x hi).2.1
end Go.Ge

/- Rows from which some are taken, and into which one is laid: in plain words. -/
namespace Go.Ge
set_option linter.unusedVariables false
set_option linter.unusedSimpArgs false

theorem takeWhile_eq {α:Type} {P:α→Bool}:∀ {l:List α} {k:Nat},k≤l.length→(∀ (j:Nat) (y:α),j < k→l[j]? = some y→P y=true)→(∀ y,l[k]? = some y→P y=false)→l.takeWhile P=l.take k∧l.dropWhile P=l.drop k:=by
  intro l
  induction l with
  | nil=>intro k hk _ _;simp
  | cons a r ih =>
    intro k hk h1 h2
    cases k with
    | zero =>
      have:=h2 a rfl
      simp [List.takeWhile_cons,List.dropWhile_cons,this]
    | succ k =>
      have ha:=h1 0 a (by omega) rfl
      obtain ⟨g1,g2⟩:=ih (k:=k) (by simpa using hk) (fun j y hj hy=>h1 (j + 1) y (by omega) hy) (fun y hy=>h2 y hy)
      simp [List.takeWhile_cons,List.dropWhile_cons,ha,g1,g2]

theorem del_loop {α S R:Type} {f:S→Option (S ⊕ R)} (l:List α) (gone:α→Bool) (mk:Int→Int→List α→S) (fin:Int→List α→R) (hl:l.length≤4294967296)
    (hstep:∀ (w j:Nat) (L:List α) (x:α),l[j]? = some x→L[j]? = some x→w≤j→j < L.length→iadd .i64 (w:Int) 1=((w + 1:Nat):Int)→iadd .i64 (j:Int) 1=((j + 1:Nat):Int) →
      f (mk (w:Int) (j:Int) L)=some (.inl (if gone x=true then mk (w:Int) ((j + 1:Nat):Int) L else mk ((w + 1:Nat):Int) ((j + 1:Nat):Int) (L.set w x))))
    (hfin:∀ (w:Nat) (L:List α),f (mk (w:Int) (L.length:Int) L)=some (.inr (fin (w:Int) L))) :
    ∀ (n w j:Nat) (L:List α),l.length - j≤n→w≤j→j≤l.length→L.length=l.length→L.take w=(l.take j).filter (fun x=>!gone x)→L.drop j=l.drop j →
      ∃ (w':Nat) (L':List α),Loop f (mk (w:Int) (j:Int) L)=some (fin (w':Int) L')∧L'.length=l.length∧w'≤l.length∧L'.take w'=l.filter (fun x=>!gone x):=by
  intro n
  induction n with
  | zero =>
    intro w j L hn hw hj hL ht hd
    obtain rfl:j=L.length:=by omega
    refine ⟨w,L,?_,hL,by omega,?_⟩
    · rw [Loop_eq,hfin];rfl
    · rw [ht,hL,List.take_length]
  | succ n ih =>
    intro w j L hn hw hj hL ht hd
    by_cases hjl:j=l.length
    · exact ih w j L (by omega) hw hj hL ht hd
    · have hjL:j < L.length:=by omega
      have hx:l[j]? = some l[j]:=List.getElem?_eq_getElem (by omega)
      have hxL:L[j]? = some l[j]:=by
        have:=congrArg (fun z=>z[0]?) hd
        simpa [List.getElem?_drop,hx] using this
      have hd1:L.drop (j + 1)=l.drop (j + 1):=by
        have:=congrArg (List.drop 1) hd
        simpa [List.drop_drop] using this
      have ht1:l.take (j + 1)=l.take j ++ [l[j]]:=by rw [List.take_add_one,hx];rfl
      rw [Loop_eq,hstep w j L l[j] hx hxL hw hjL (iadd_one (by omega)) (iadd_one (by omega))]
      by_cases hg:gone l[j]=true
      · rw [if_pos hg]
        exact ih w (j + 1) L (by omega) (by omega) (by omega) hL (by rw [ht,ht1,List.filter_append];simp [hg]) hd1
      · rw [if_neg hg]
        refine ih (w + 1) (j + 1) (L.set w l[j]) (by omega) (by omega) (by omega) (by simpa using hL) ?_ ?_
        · rw [ht1,List.filter_append,← ht,List.take_add_one,List.take_set_of_le (Nat.le_refl w)]
          simp [hg,show w < L.length by omega]
        · rw [List.drop_set_of_lt (by omega)];exact hd1

theorem sub_over {α:Type} (L:List α) (w:Nat) (hw:w≤L.length) (m:List α):sub (over L (w:Int) m) 0 (minus (w:Int) 0)=L.take w:=by
 rw [sub_take]
 unfold over
 rw [Int.toNat_natCast,List.append_assoc,List.take_append_of_le_length (by rw [List.length_take];omega),List.take_take,Nat.min_self]
theorem len_over {α:Type} (L:List α) (w:Nat) (hw:w≤L.length) (z:α):len (over L (w:Int) (lrep (minus (len L) (w:Int)) z))=(L.length:Int):=by
 unfold over lrep minus len
 simp
 omega

theorem filter_one {α:Type} {l:List α} {P:α→Bool} {k:Nat} {x:α} (hx:l[k]? = some x) (hP:P x=false) (h:∀ (j:Nat) (y:α),j ≠ k→l[j]? = some y→P y=true):l.filter P=l.take k ++ l.drop (k + 1):=by
 have hk:=getElem?_lt hx
 have e:l=l.take k ++ x :: l.drop (k + 1):=by
  conv=>lhs;rw [← List.take_append_drop k l,List.drop_eq_getElem_cons hk]
  rw [(List.getElem?_eq_some_iff.1 hx).2]
 conv=>lhs;rw [e]
 rw [List.filter_append,List.filter_cons,hP]
 have h1:(l.take k).filter P=l.take k:=List.filter_eq_self.2 fun y hy=>by
  obtain ⟨j,hj⟩:=mem_at.1 hy
  rw [List.getElem?_take] at hj
  split at hj
  ·exact h j y (by omega) hj
  ·cases hj
 have h2:(l.drop (k + 1)).filter P=l.drop (k + 1):=List.filter_eq_self.2 fun y hy=>by
  obtain ⟨j,hj⟩:=mem_at.1 hy
  rw [List.getElem?_drop] at hj
  exact h (k + 1 + j) y (by omega) hj
 rw [h1,h2]
 simp

/-! ### Trees -/
def insF (l:List Nd) (n:Nd):List Nd:=l.takeWhile (fun x=>decide (cmp x n.1 < 0)) ++ n :: l.dropWhile (fun x=>decide (cmp x n.1 < 0))
def gone (p:List UInt8) (x:Nd):Bool:=decide (x.1=p) || underL (parts x.1) (parts p)
def restF (l:List Nd) (p:List UInt8):List Nd:=l.filter fun x=>!gone p x

theorem Ord.filter {l:List Nd} (h:Ord l) (P:Nd→Bool):Ord (l.filter P):=by
 have hp:l.Pairwise fun x y=>cmpL (key x) (key y) < 0:=by
  rw [List.pairwise_iff_getElem]
  intro i j hi hj hij
  exact h i j _ _ hij (List.getElem?_eq_getElem hi) (List.getElem?_eq_getElem hj)
 have hq:=hp.filter P
 rw [List.pairwise_iff_getElem] at hq
 intro i j x y hij hx hy
 obtain ⟨h1,h2⟩:=List.getElem?_eq_some_iff.1 hx
 obtain ⟨h3,h4⟩:=List.getElem?_eq_some_iff.1 hy
 rw [← h2,← h4]
 exact hq i j h1 h3 hij
theorem SmL.filter {l:List Nd} (h:SmL l) (P:Nd→Bool):SmL (l.filter P):=⟨Nat.le_trans (List.length_filter_le _ _) h.1,fun x hx=>h.2 x (List.mem_filter.1 hx).1⟩

theorem insF_at {l:List Nd} {n:Nd} {k:Nat} {b:Bool} (h:Plc l n.1 k b):insF l n=l.take k ++ [n] ++ l.drop k:=by
 obtain ⟨h1,h2⟩:=takeWhile_eq (P:=fun x=>decide (cmp x n.1 < 0)) h.le (fun j y hj hy=>decide_eq_true (h.lo j y hj hy)) (fun y hy=>decide_eq_false (h.hi k y (Nat.le_refl _) hy))
 unfold insF
 rw [h1,h2]
 simp

theorem none_under {l:List Nd} (hv:Valid l) {p:List UInt8} (hp:p ≠ []) (hn:∀ x ∈ l,x.1 ≠ p):∀ (m:Nat) (x:Nd),x ∈ l→(parts x.1).length≤m→underL (parts x.1) (parts p)=false:=by
  intro m
  induction m with
  | zero =>
    intro x hx hm
    unfold underL
    exact decide_eq_false (by omega)
  | succ m ih =>
    intro x hx hm
    cases hu:underL (parts x.1) (parts p) with
    | false=>rfl
    | true =>
      exfalso
      unfold underL at hu
      obtain ⟨h1,h2⟩:=of_decide_eq_true hu
      have hmay:=hv.may x hx
      unfold mayF okPath at hmay
      simp only [Bool.and_eq_true,decide_eq_true_eq] at hmay
      by_cases h0:(splitF x.1).1=[]
      · have hall:=hmay.1.1.1.1.1.1.1.2
        have hone:(parts x.1).length≤1:=by
          rcases split_cases x.1 with ⟨a,_⟩ | ⟨a,b,e1,e2,e⟩
          · unfold parts
            split
            · simp
            · rw [splitS_plain _ a];simp
          · rw [e] at h0
            have h0:a=[]:=h0
            subst h0
            have:isNm []=true:=List.all_eq_true.1 hall [] (by
              unfold parts
              rw [e1,if_neg (by simp)]
              show [] ∈ splitS ([] ++ 47 :: b)
              rw [splitS_app [] (by simp)]
              simp)
            exact absurd this (by decide)
        have:parts p=[]:=List.length_eq_zero_iff.1 (by omega)
        have:=joinS_parts p
        rw [‹parts p=[]›] at this
        exact hp this.symm
      · have hk:=parent_key h0
        rcases hv.up x hx with e | ⟨y,hy,hy1,hy2⟩
        · exact absurd e h0
        · rw [← hy1] at hk
          rw [hk] at h1 h2
          have hle:(parts p).length≤(parts y.1).length:=by simp at h1;omega
          rw [List.take_append_of_le_length hle] at h2
          rcases Nat.lt_or_ge (parts p).length (parts y.1).length with g | g
          · have:=ih y hy (by rw [hk] at hm;simp at hm;omega)
            unfold underL at this
            exact absurd ⟨g,h2⟩ (of_decide_eq_false this)
          · have he:parts p=parts y.1:=by rw [← h2,List.take_of_length_le (by omega)]
            refine hn y hy ?_
            rw [← joinS_parts y.1,← he,joinS_parts]

theorem restF_none {l:List Nd} (hv:Valid l) {p:List UInt8} (hp:p ≠ []) (hn:∀ x ∈ l,x.1 ≠ p):restF l p=l:=List.filter_eq_self.2 fun x hx=>by
 unfold gone
 rw [none_under hv hp hn _ x hx (Nat.le_refl _),decide_eq_false (hn x hx)];rfl
end Go.Ge

/- A node put into a tree: in plain words. -/
namespace Go.Ge
set_option linter.unusedVariables false
set_option linter.unusedSimpArgs false

open Classical in
noncomputable def t14_putF (l:List Nd) (n:Nd):List Nd×Int :=
 if ¬ Valid l∨mayF n=false then ([],1) else
 if (splitF n.1).1 ≠ []∧∀ x ∈ l,x.1 ≠ (splitF n.1).1 then ([],3) else
 if (splitF n.1).1 ≠ []∧∀ x ∈ l,x.1=(splitF n.1).1→x.2.1 ≠ 2 then ([],12) else
 let r:=if (∃ x ∈ l,x.1=n.1∧x.2.1=2)∧n.2.1=2 then l.filter (fun x=>!decide (x.1=n.1)) else restF l n.1
 if 64≤r.length then ([],5) else (insF r n,0)

theorem mayF_ne {n:Nd} (h:mayF n=true):n.1 ≠ []:=by
 unfold mayF okPath at h
 simp only [Bool.and_eq_true,decide_eq_true_eq] at h
 exact h.1.1.1.1.1.1.1.1

theorem ins_val (l:List Nd) (k:Nat) (n:Nd) (hk:k≤l.length) (hl:l.length≤4096):P_slices_Insert_api_TreeNode_api_TreeNode l ((k:Int),([n],()))=some (l.take k ++ [n] ++ l.drop k):=by
 unfold P_slices_Insert_api_TreeNode_api_TreeNode insL
 dsimp only
 have h1:inside 0 (k:Int) (len l)=true:=inside_len (a:=0) (Nat.zero_le _) hk
 rw [h1,fits_len2 (by simp;omega)]
 simp

theorem tail_val (r:List Nd) (n:Nd) (hr:SmL r) (ho:Ord r) (hn:n.1.length≤200) (c:Int) (hc:c=r.length) :
  sel (leI 64 c) (some (([]:List Nd),((5:Int),()))) (obind (P_tree_place (r,(n.1,()))) fun (y:Int×Bool×Unit)=>obind (P_slices_Insert_api_TreeNode_api_TreeNode r (y.1,([n],()))) fun z=>some (z,((0:Int),()))) =
   some (if 64≤r.length then ([],(5,())) else (insF r n,(0,()))):=by
 subst hc
 rw [leI_dec]
 by_cases h:64≤r.length
 ·rw [decide_eq_true (by omega),sel_true,if_pos h]
 ·rw [decide_eq_false (by omega),sel_false,if_neg h]
  obtain ⟨k,b,h1,h2,h3,h4⟩:=place_val r n.1 hr (by omega)
  rw [h1,obind_some]
  dsimp only
  rw [ins_val r k n h2 hr.1,obind_some,insF_at (h4 ho)]

theorem gone_val (x:Nd) (p:List UInt8) (hx:x.1.length≤200) (hp:p.length≤200):sel (nt (eqS x.1 p)) (obind (P_paths_Under (x.1,(p,()))) (fun (y:Bool×Unit)=>some y.1)) (some true)=some (gone p x):=by
 rw [under_val _ _ (by omega) (by omega),obind_some,eqS_iff]
 unfold gone
 cases decide (x.1=p) <;> rfl

theorem put_loop0 (l:List Nd) (n:Nd) (hl:SmL l) (hn:n.1.length≤200):(∃ i x,l[i]? = some x∧gone n.1 x=true∧(∀ (j:Nat) y,j < i→l[j]? = some y→gone n.1 y=false)∧Loop (P_tree_Put_L0 (l,(n,()))) ((0,(0,())),((),(n.1,())))=some (1,(((i:Int),((i:Int),())),((),(n.1,()))))) ∨
  ((∀ (i:Nat) x,l[i]? = some x→gone n.1 x=false)∧Loop (P_tree_Put_L0 (l,(n,()))) ((0,(0,())),((),(n.1,())))=some (0,((0,((l.length:Int),())),((),(n.1,()))))) :=
 srch (f:=P_tree_Put_L0 (l,(n,()))) l (fun i=>((0,(i,())),((),(n.1,())))) (fun _ x=>gone n.1 x) (fun i x=>(1,(((i:Int),((i:Int),())),((),(n.1,()))))) (0,((0,((l.length:Int),())),((),(n.1,())))) (by have:=hl.1;omega) (fun i x hx hi ha=>by
   unfold P_tree_Put_L0
   dsimp only
   rw [ltI_len_true hi,sel_true,within_true (by omega) (by unfold len;omega),sel_true,idx_some' hx,obind_some,gone_val _ _ (hl.at hx).1 hn,obind_some,ha]
   cases gone n.1 x <;> rfl) (by unfold P_tree_Put_L0;dsimp only;rw [ltI_len_end,sel_false])

theorem put_loop2 (l:List Nd) (n:Nd) (hl:SmL l) (hn:n.1.length≤200) (i:Nat) (x:Nd) (hx:l[i]? = some x) (hg:gone n.1 x=true) (hb:∀ (j:Nat) y,j < i→l[j]? = some y→gone n.1 y=false) :
    ∃ (w:Nat) (L:List Nd),Loop (P_tree_Put_L2) (((i:Int),(iadd IntKind.i64 (i:Int) 1,((),()))),((),(n.1,(l,()))))=some (((w:Int),((l.length:Int),((),()))),((),(n.1,(L,()))))∧L.length=l.length∧w≤l.length∧L.take w=restF l n.1:=by
  have hi:=getElem?_lt hx
  have h4:=hl.1
  have hfl:l.take i=(l.take (i + 1)).filter (fun x=>!gone n.1 x):=by
    rw [List.take_add_one,hx,List.filter_append]
    have h1:(l.take i).filter (fun x=>!gone n.1 x)=l.take i:=List.filter_eq_self.2 fun y hy=>by
      obtain ⟨j,hj⟩:=mem_at.1 hy
      rw [List.getElem?_take] at hj
      split at hj
      · rw [hb j y (by omega) hj];rfl
      · cases hj
    rw [h1]
    simp [hg]
  obtain ⟨w,L,h1,h2,h3,h5⟩:=del_loop (f:=P_tree_Put_L2) l (gone n.1) (fun w j L=>((w,(j,((),()))),((),(n.1,(L,()))))) (fun w L=>((w,((L.length:Int),((),()))),((),(n.1,(L,()))))) (by omega) (fun w j L x hx hxL hw hj ha hb=>by
      unfold P_tree_Put_L2
      dsimp only
      have hwL:w < L.length:=by omega
      obtain ⟨z,hz⟩:∃ z,L[w]? = some z:=⟨_,List.getElem?_eq_getElem hwL⟩
      rw [ltI_len_true hj,sel_true,within_true (by omega) (by unfold len;omega),sel_true,idx_some' hxL,obind_some,gone_val _ _ (hl.at hx).1 hn,obind_some,hb]
      cases gone n.1 x with
      | true=>rfl
      | false =>
        rw [nt_false,sel_true,within_true (by omega) (by unfold len;omega),sel_true,idx_some' hz,obind_some,obind_some,obind_some,obind_some,ha,lset_nat]
        rfl) (fun w L=>by
      unfold P_tree_Put_L2
      dsimp only
      rw [ltI_len_end,sel_false]
      rfl) l.length i (i + 1) l (by omega) (by omega) (by omega) rfl hfl rfl
  refine ⟨w,L,?_,h2,h3,h5⟩
  rw [iadd_one (by omega),h1,h2]

theorem same_dir {l:List Nd} (ho:Ord l) {n x:Nd} {k:Nat} (hx:l[k]? = some x) (e:x.1=n.1):l.filter (fun x=>!decide (x.1=n.1))=l.take k ++ l.drop (k + 1)∧insF (l.take k ++ l.drop (k + 1)) n=l.take k ++ [n] ++ l.drop (k + 1):=by
 have hk:=getElem?_lt hx
 have hkx:key x=parts n.1:=by unfold key;rw [e]
 have hlo:∀ (j:Nat) (y:Nd),j < k→l[j]? = some y→cmp y n.1 < 0:=fun j y hj hy=>by
  have:=ho j k y x hj hy hx
  rw [hkx] at this;exact this
 have hhi:∀ (j:Nat) (y:Nd),k < j→l[j]? = some y→¬ cmp y n.1 < 0:=fun j y hj hy hc=>by
  have:=ho k j x y hj hx hy
  rw [hkx] at this
  have:=cmpL_trans this hc
  rw [cmpL_self] at this;omega
 have htl:(l.take k).length=k:=by rw [List.length_take];omega
 constructor
 ·refine filter_one hx (by rw [decide_eq_true e];rfl) fun j y hj hy=>?_
  rw [decide_eq_false];rfl
  intro e2
  have h0:=cmp_same e2
  rcases Nat.lt_or_ge j k with g | g
  ·have:=hlo j y g hy;omega
  ·have hne:key x=key y:=by rw [hkx];unfold key;rw [e2]
   have:=ho k j x y (by omega) hx hy
   rw [hne,cmpL_self] at this;omega
 ·obtain ⟨h1,h2⟩:=takeWhile_eq (l:=l.take k ++ l.drop (k + 1)) (k:=k) (P:=fun x=>decide (cmp x n.1 < 0)) (by rw [List.length_append,htl];omega) (fun j y hj hy=>by
    rw [List.getElem?_append_left (by omega),List.getElem?_take,if_pos hj] at hy
    exact decide_eq_true (hlo j y hj hy)) (fun y hy=>by
    rw [List.getElem?_append_right (by omega),htl,Nat.sub_self,List.getElem?_drop] at hy
    exact decide_eq_false (hhi _ y (by omega) hy))
  unfold insF
  rw [h1,h2,List.take_left' htl,List.drop_left' htl]
  simp

theorem set_split {α:Type} {l:List α} {k:Nat} (hk:k < l.length) (n:α):l.set k n=l.take k ++ [n] ++ l.drop (k + 1):=by
 rw [List.set_eq_take_append_cons_drop,if_pos hk]
 simp

theorem t14_put_val (l:List Nd) (n:Nd) (hl:SmL l) (hn:Sm n):P_tree_Put (l,(n,()))=some ((t14_putF l n).1,((t14_putF l n).2,())):=by
  obtain ⟨e,c1,c2⟩:=check_val' l hl
  have hn1:=hn.1
  unfold P_tree_Put
  dsimp only
  rw [c1,obind_some,tis_val n (by omega),obind_some]
  dsimp only
  by_cases hvm:¬ Valid l∨mayF n=false
  · have hp:t14_putF l n=([],1):=by unfold t14_putF;rw [if_pos hvm]
    rw [hp]
    have:sel (nt (nt (eqI e 0))) (some (nt (mayF n))) (some true)=some true:=by
      rcases hvm with h | h
      · rw [show eqI e 0=false by unfold eqI;exact decide_eq_false fun h0=>h (c2.1 h0)];rfl
      · rw [h];cases nt (nt (eqI e 0)) <;> rfl
    rw [this,obind_some,sel_true]
  · have hv:Valid l:=by
      by_cases h:Valid l
      · exact h
      · exact absurd (.inl h) hvm
    have hm:mayF n=true:=by
      cases h:mayF n with
      | true=>rfl
      | false=>exact absurd (.inr h) hvm
    obtain rfl:=c2.2 hv
    rw [hm]
    have:sel (nt (nt (eqI 0 0))) (some (nt true)) (some true)=some false:=rfl
    rw [this,obind_some,sel_false,psplit_val _ (by omega),obind_some]
    dsimp only
    obtain ⟨d,d1,d2⟩:=dir_val l (splitF n.1).1 hl (by have:=splitF_len n.1;omega)
    rw [d1,obind_some]
    dsimp only
    by_cases hg:(¬ ((splitF n.1).1 ≠ []∧∀ x ∈ l,x.1 ≠ (splitF n.1).1))∧(¬ ((splitF n.1).1 ≠ []∧∀ x ∈ l,x.1=(splitF n.1).1→x.2.1 ≠ 2))∧d=0
    · obtain ⟨g1,g2,hd0⟩:=hg
      subst hd0
      have hp:t14_putF l n=(let r:=if (∃ x ∈ l,x.1=n.1∧x.2.1=2)∧n.2.1=2 then l.filter (fun x=>!decide (x.1=n.1)) else restF l n.1
          if 64≤r.length then ([],5) else (insF r n,0)):=by
        unfold t14_putF;rw [if_neg hvm,if_neg g1,if_neg g2]
      rw [show nt (eqI 0 0)=false by rfl,sel_false]
      obtain ⟨k,b,p1,p2,p3,p4⟩:=place_val l n.1 hl (by omega)
      have hpl:=p4 hv.ord
      rw [p1,obind_some]
      dsimp only
      obtain ⟨y6,e6,s6⟩:∃ y6,sel b (obind (idx l (k:Int)) (fun (y:Nd)=>some (eqI y.2.1 2))) (some false)=some y6∧(sel y6 (eqI n.2.1 2) false=true ↔ ((∃ x ∈ l,x.1=n.1∧x.2.1=2)∧n.2.1=2)):=by
        cases b with
        | false =>
          refine ⟨false,rfl,?_⟩
          rw [sel_false]
          exact ⟨fun h=>(by cases h),fun ⟨⟨x,hx,e,_⟩,_⟩=>absurd e (hpl.no rfl x hx)⟩
        | true =>
          obtain ⟨x,hx,e⟩:=hpl.is rfl
          refine ⟨eqI x.2.1 2,by rw [sel_true,idx_some' hx,obind_some],?_⟩
          rw [sel_and,Bool.and_eq_true]
          unfold eqI
          rw [decide_eq_true_eq,decide_eq_true_eq]
          refine ⟨fun h=>⟨⟨x,List.mem_of_getElem? hx,e,h.1⟩,h.2⟩,fun ⟨⟨y,hy,e2,hy2⟩,h2⟩=>?_⟩
          have:=hv.ord.uniq (List.mem_of_getElem? hx) hy (by rw [e,e2])
          subst this
          exact ⟨hy2,h2⟩
      rw [e6,obind_some]
      by_cases hno:(∃ x ∈ l,x.1=n.1∧x.2.1=2)∧n.2.1=2
      · rw [s6.2 hno,sel_true]
        have hb:b=true:=by
          cases b with
          | true=>rfl
          | false=>obtain ⟨⟨x,hx,e,_⟩,_⟩:=hno;exact absurd e (hpl.no rfl x hx)
        obtain ⟨x,hx,e⟩:=hpl.is hb
        have hk:=getElem?_lt hx
        rw [fits_len (by have:=hl.1;omega),sel_true,within_true (by omega) (by unfold len;omega),sel_true,idx_some' hx,obind_some,obind_some,obind_some,lset_nat]
        obtain ⟨s1,s2⟩:=same_dir hv.ord hx e
        have hfew:=hv.few
        rw [if_pos hno,s1] at hp
        have h64:¬ 64≤(l.take k ++ l.drop (k + 1)).length:=by simp;omega
        rw [hp]
        simp only [h64,if_false]
        rw [s2,set_split hk]
      · have hs:sel y6 (eqI n.2.1 2) false=false:=by
          cases h:sel y6 (eqI n.2.1 2) false with
          | false=>rfl
          | true=>exact absurd (s6.1 h) hno
        rw [if_neg hno] at hp
        rw [hs,sel_false,obind_some]
        dsimp only
        rw [show nt (eqI 0 0)=false by rfl,sel_false,fits_len (by have:=hl.1;omega),sel_true]
        rcases put_loop0 l n hl hn1 with ⟨i,x,hx,hg,hb,h⟩ | ⟨hb,h⟩
        · obtain ⟨w,L,w1,w2,w3,w4⟩:=put_loop2 l n hl hn1 i x hx hg hb
          rw [h,obind_some]
          dsimp only
          rw [eqN_one,sel_false,show eqI (i:Int) (-1)=false by unfold eqI;exact decide_eq_false (by omega),sel_false,w1,obind_some]
          dsimp only
          rw [inside_true (by omega) (by unfold len;omega) (Int.le_refl _),sel_true,len_over L w (by omega),inside_true (Int.le_refl _) (by omega) (by omega),sel_true,sub_over L w (by omega),w4]
          have hlen:(restF l n.1).length=w:=by rw [← w4,List.length_take];omega
          refine Eq.trans (tail_val (restF l n.1) n (hl.filter _) (hv.ord.filter _) hn1 (minus (w:Int) 0) (by rw [hlen];unfold minus;omega)) ?_
          rw [hp]
          by_cases h64:64≤(restF l n.1).length
          · rw [if_pos h64];simp only [h64,if_true]
          · rw [if_neg h64];simp only [h64,if_false]
        · have hr:restF l n.1=l:=List.filter_eq_self.2 fun x hx=>by
            obtain ⟨j,hj⟩:=mem_at.1 hx
            rw [hb j x hj];rfl
          rw [hr] at hp
          rw [h,obind_some]
          dsimp only
          rw [eqN_zero,sel_true,show eqI (-1) (-1)=true by rfl,sel_true]
          have tv:=tail_val l n hl hv.ord hn1 (len l) rfl
          rw [p1] at tv
          refine Eq.trans tv ?_
          rw [hp]
          by_cases h64:64≤l.length
          · rw [if_pos h64];simp only [h64,if_true]
          · rw [if_neg h64];simp only [h64,if_false]
    · rcases d2 hv.ord with ⟨h0,hd⟩ | ⟨h0,⟨hno,hd⟩ | ⟨x,hx,hx1,⟨hx2,hd⟩ | ⟨hx2,hd⟩⟩⟩
      · exact absurd ⟨fun h=>h.1 h0,fun h=>h.1 h0,hd⟩ hg
      · subst hd
        have hp:t14_putF l n=([],3):=by unfold t14_putF;rw [if_neg hvm,if_pos ⟨h0,hno⟩]
        rw [hp];rfl
      · exact absurd ⟨fun h=>h.2 x hx hx1,fun h=>h.2 x hx hx1 hx2,hd⟩ hg
      · subst hd
        have hp:t14_putF l n=([],12):=by
          unfold t14_putF
          rw [if_neg hvm,if_neg (fun h=>h.2 x hx hx1),if_pos ⟨h0,fun y hy e=>by
            have:=hv.ord.uniq hx hy (by rw [hx1,e])
            subst this
            exact hx2⟩]
        rw [hp];rfl
end Go.Ge

/- The reference's Put: in plain words. -/
namespace Go.Ge
set_option linter.unusedVariables false
set_option linter.unusedSimpArgs false

def withoutF (l:List Nd) (p:List UInt8) (b:Bool):List Nd:=l.filter fun x=>!underL (parts x.1) (parts p) && (!b || !decide (x.1=p))

theorem without_val (l:List Nd) (p:List UInt8) (b:Bool) (hl:SmL l) (hp:p.length≤4096):P_ref14_without (l,(p,(b,())))=some (withoutF l p b,()):=by
  unfold P_ref14_without
  have hb:=hl.1
  have hfm:∀ m:List Nd,m.flatMap (fun x=>if (!underL (parts x.1) (parts p) && (!b || !decide (x.1=p)))=true then [x] else [])=withoutF m p b:=by
    intro m
    unfold withoutF
    induction m with
    | nil=>rfl
    | cons a r ih =>
      rw [List.flatMap_cons,ih,List.filter_cons]
      split <;> simp
  have h:=fold_app (f:=P_ref14_without_L0 (l,(p,(b,())))) l (fun a i=>(((),(i,())),(a,()))) (fun x=>if (!underL (parts x.1) (parts p) && (!b || !decide (x.1=p)))=true then [x] else []) (((),((l.length:Int),())),(withoutF l p b,())) (by omega) (fun i x hx hi ha=>by
      unfold P_ref14_without_L0
      dsimp only
      have hlen:((l.take i).flatMap fun x=>if (!underL (parts x.1) (parts p) && (!b || !decide (x.1=p)))=true then [x] else []).length≤4096:=by
        rw [hfm]
        unfold withoutF
        refine Nat.le_trans (List.length_filter_le _ _) ?_
        rw [List.length_take];omega
      rw [ltI_len_true hi,sel_true,idx_some' hx,obind_some,refUnder_val _ _ (by have:=(hl.at hx).1;omega) hp,obind_some,obind_some,obind_some,ha,fits_len2 (by simp only [List.length_singleton];omega)]
      dsimp only
      rw [eqS_iff]
      cases underL (parts x.1) (parts p) <;> cases b <;> cases decide (x.1=p) <;> simp [sel,nt,obind,way1,app]) (by
      unfold P_ref14_without_L0
      dsimp only
      rw [ltI_len_end,sel_false,hfm]
      rfl)
  have h':Loop (P_ref14_without_L0 (l,(p,(b,())))) (((),((0:Int),())),(([]:List Nd),()))=some (((),((l.length:Int),())),(withoutF l p b,())):=h
  rw [h',obind_some]

theorem withoutF_true (l:List Nd) (p:List UInt8):withoutF l p true=restF l p:=by
 unfold withoutF restF
 congr 1
 funext x
 unfold gone
 cases underL (parts x.1) (parts p) <;> cases decide (x.1=p) <;> rfl

theorem refPut_loop (l r:List Nd) (n:Nd) (hr:SmL r) (hn:n.1.length≤200):∃ k:Nat,k≤r.length∧Loop (P_ref14_Put_L0 (l,(n,())) ((r,()),())) (((0:Int),()),())=some (((k:Int),()),())∧insF r n=r.take k ++ [n] ++ r.drop k:=by
 have hb:=hr.1
 rcases srch (f:=P_ref14_Put_L0 (l,(n,())) ((r,()),())) r (fun i=>((i,()),())) (fun _ x=>!decide (cmp x n.1 < 0)) (fun i _=>(((i:Int),()),())) (((r.length:Int),()),()) (by omega) (fun i x hx hi ha=>by
   unfold P_ref14_Put_L0
   dsimp only
   rw [ltI_len_true hi,sel_true,idx_some' hx,obind_some,refCompare_val _ _ (by have:=(hr.at hx).1;omega) (by omega),obind_some,ha]
   dsimp only
   unfold cmp ltI
   cases decide (cmpL (parts x.1) (parts n.1) < 0) <;> rfl) (by
   unfold P_ref14_Put_L0
   dsimp only
   rw [ltI_len_end,sel_false]
   rfl) with ⟨i,x,hx,hp,hj,h⟩ | ⟨hn,h⟩
 ·refine ⟨i,by have:=getElem?_lt hx;omega,h,?_⟩
  obtain ⟨h1,h2⟩:=takeWhile_eq (l:=r) (k:=i) (P:=fun x=>decide (cmp x n.1 < 0)) (by have:=getElem?_lt hx;omega) (fun j y hji hy=>by
   have:=hj j y hji hy
   simpa using this) (fun y hy=>by
   rw [hx] at hy
   obtain rfl:=Option.some.inj hy
   simpa using hp)
  unfold insF
  rw [h1,h2];simp
 ·refine ⟨r.length,Nat.le_refl _,h,?_⟩
  obtain ⟨h1,h2⟩:=takeWhile_eq (l:=r) (k:=r.length) (P:=fun x=>decide (cmp x n.1 < 0)) (Nat.le_refl _) (fun j y hji hy=>by
   have:=hn j y hy
   simpa using this) (fun y hy=>by
   have:=getElem?_lt hy;omega)
  unfold insF
  rw [h1,h2];simp

theorem refTail_val (l r:List Nd) (n:Nd) (hr:SmL r) (hn:n.1.length≤200) :
  sel (leI 64 (len r)) (some (([]:List Nd),((5:Int),()))) (obind (Loop (P_ref14_Put_L0 (l,(n,())) ((r,()),())) (((0:Int),()),())) fun (y9:(Int×Unit)×Unit)=>sel (inside 0 y9.1.1 (len r))
   (sel (fits (plus (len ([]:List Nd)) (len (sub r 0 (minus y9.1.1 0)))))
   (sel (fits (plus (len (app ([]:List Nd) (sub r 0 (minus y9.1.1 0)))) (len [n])))
   (sel (inside y9.1.1 (len r) (len r))
   (sel (fits (plus (len (app (app ([]:List Nd) (sub r 0 (minus y9.1.1 0))) [n])) (len (sub r y9.1.1 (minus (len r) y9.1.1)))))
   (some (app (app (app ([]:List Nd) (sub r 0 (minus y9.1.1 0))) [n]) (sub r y9.1.1 (minus (len r) y9.1.1)),((0:Int),())))
   none) none) none) none) none)=some (if 64≤r.length then ([],(5,())) else (insF r n,(0,()))):=by
 have hb:=hr.1
 rw [leI_dec]
 by_cases h:64≤r.length
 ·rw [decide_eq_true (by unfold len;omega),sel_true,if_pos h]
 ·rw [decide_eq_false (by unfold len;omega),sel_false,if_neg h]
  obtain ⟨k,k1,k2,k3⟩:=refPut_loop l r n hr hn
  rw [k2,obind_some]
  dsimp only
  have i1:inside 0 (k:Int) (len r)=true:=inside_len (a:=0) (Nat.zero_le _) k1
  have i2:inside (k:Int) (len r) (len r)=true:=inside_true (by omega) (by unfold len;omega) (Int.le_refl _)
  rw [i1,sel_true,sub_take,sub_drop r k k1,i2]
  have f1:fits (plus (len ([]:List Nd)) (len (r.take k)))=true:=fits_len2 (by rw [List.length_take];simp;omega)
  have f2:fits (plus (len (app ([]:List Nd) (r.take k))) (len [n]))=true:=fits_len2 (by rw [app_eq,List.nil_append,List.length_take];simp;omega)
  have f3:fits (plus (len (app (app ([]:List Nd) (r.take k)) [n])) (len (r.drop k)))=true:=fits_len2 (by rw [app_eq,app_eq,List.nil_append,List.length_append,List.length_take,List.length_drop];simp;omega)
  rw [f1,f2,f3,sel_true,sel_true,sel_true,sel_true,k3]
  rfl

theorem t14_refPut_val (l:List Nd) (n:Nd) (hl:SmL l) (hn:Sm n):P_ref14_Put (l,(n,()))=some ((t14_putF l n).1,((t14_putF l n).2,())):=by
  obtain ⟨e,c1,c2⟩:=isTree_val l hl
  have hn1:=hn.1
  have hb:=hl.1
  unfold P_ref14_Put
  dsimp only
  rw [c1,obind_some,t14_may_val n (by omega) (by have:=hn.2.1;omega),obind_some]
  dsimp only
  by_cases hvm:¬ Valid l∨mayF n=false
  · have hp:t14_putF l n=([],1):=by unfold t14_putF;rw [if_pos hvm]
    rw [hp]
    have:sel (nt (nt e)) (some (nt (mayF n))) (some true)=some true:=by
      rcases hvm with h | h
      · rw [show e=false by
          cases e with
          | false=>rfl
          | true=>exact absurd (c2.1 rfl) h]
        rfl
      · rw [h];cases nt (nt e) <;> rfl
    rw [this,obind_some,sel_true]
  · have hv:Valid l:=by
      by_cases h:Valid l
      · exact h
      · exact absurd (.inl h) hvm
    have hm:mayF n=true:=by
      cases h:mayF n with
      | true=>rfl
      | false=>exact absurd (.inr h) hvm
    obtain rfl:=c2.2 hv
    rw [hm]
    have:sel (nt (nt true)) (some (nt true)) (some true)=some false:=rfl
    rw [this,obind_some,sel_false,refSplit_val _ (by omega),obind_some]
    dsimp only
    -- is there a directory
    obtain ⟨y4,e4,s4⟩:∃ y4,sel (nt (eqS (splitF n.1).1 [])) (obind (P_ref14_find (l,((splitF n.1).1,()))) (fun (y:Int×Unit)=>some (ltI y.1 0))) (some false)=some y4∧(y4=true ↔ ((splitF n.1).1 ≠ []∧∀ x ∈ l,x.1 ≠ (splitF n.1).1)):=by
      by_cases h0:(splitF n.1).1=[]
      · refine ⟨false,by rw [h0];rfl,fun h=>(by cases h),fun h=>absurd h0 h.1⟩
      · rw [eqS_false h0,nt_false,sel_true]
        rcases find_val l (splitF n.1).1 hl with ⟨i,x,hx,hxp,h⟩ | ⟨hno,h⟩
        · refine ⟨false,by rw [h,obind_some,ltI_false (by omega)],fun h=>(by cases h),fun h=>absurd hxp (h.2 x (List.mem_of_getElem? hx))⟩
        · exact ⟨true,by rw [h,obind_some];rfl,fun _=>⟨h0,hno⟩,fun _=>rfl⟩
    rw [e4,obind_some]
    by_cases g1:(splitF n.1).1 ≠ []∧∀ x ∈ l,x.1 ≠ (splitF n.1).1
    · have hp:t14_putF l n=([],3):=by unfold t14_putF;rw [if_neg hvm,if_pos g1]
      rw [s4.2 g1,hp];rfl
    · have:y4=false:=by
        cases y4 with
        | false=>rfl
        | true=>exact absurd (s4.1 rfl) g1
      rw [this,sel_false]
      obtain ⟨d,d1,d2,d3⟩:=refDir_val l (splitF n.1).1 hl
      rw [d1,obind_some]
      dsimp only
      by_cases g2:(splitF n.1).1 ≠ []∧∀ x ∈ l,x.1=(splitF n.1).1→x.2.1 ≠ 2
      · have hp:t14_putF l n=([],12):=by unfold t14_putF;rw [if_neg hvm,if_neg g1,if_pos g2]
        have:d=false:=by
          cases d with
          | false=>rfl
          | true =>
            rcases d2 rfl with h | ⟨x,hx,hx1,hx2⟩
            · exact absurd h g2.1
            · exact absurd hx2 (g2.2 x hx hx1)
        rw [this,hp];rfl
      · have:d=true:=by
          cases d with
          | true=>rfl
          | false=>exact absurd (d3 hv.ord rfl) g2
        rw [this,show nt true=false by rfl,sel_false]
        have hp:t14_putF l n=(let r:=if (∃ x ∈ l,x.1=n.1∧x.2.1=2)∧n.2.1=2 then l.filter (fun x=>!decide (x.1=n.1)) else restF l n.1
            if 64≤r.length then ([],5) else (insF r n,0)):=by
          unfold t14_putF;rw [if_neg hvm,if_neg g1,if_neg g2]
        rcases find_val l n.1 hl with ⟨i,x,hx,hxp,h⟩ | ⟨hno,h⟩
        · have hi:=getElem?_lt hx
          have hmem:=List.mem_of_getElem? hx
          rw [h,obind_some]
          dsimp only
          rw [leI_true (by omega),sel_true,idx_some' hx,obind_some,obind_some]
          by_cases hbo:x.2.1=2∧n.2.1=2
          · obtain ⟨s1,s2⟩:=same_dir hv.ord hx hxp
            rw [if_pos (show ((∃ x ∈ l,x.1=n.1∧x.2.1=2)∧n.2.1=2) from ⟨⟨x,hmem,hxp,hbo.1⟩,hbo.2⟩),s1] at hp
            have i1:inside 0 (i:Int) (len l)=true:=inside_len (a:=0) (Nat.zero_le _) (by omega)
            have i2:inside ((i + 1:Nat):Int) (len l) (len l)=true:=inside_true (by omega) (by unfold len;omega) (Int.le_refl _)
            rw [eqI_true hbo.1,eqI_true hbo.2,sel_true,sel_true,i1,sel_true,sub_take,iadd_one (by omega),i2,sub_drop l (i + 1) (by omega)]
            have f1:fits (plus (len ([]:List Nd)) (len (l.take i)))=true:=fits_len2 (by rw [List.length_take];simp;omega)
            have f2:fits (plus (len (app ([]:List Nd) (l.take i))) (len (l.drop (i + 1))))=true:=fits_len2 (by rw [app_eq,List.nil_append,List.length_take,List.length_drop];omega)
            rw [f1,f2,sel_true,sel_true,sel_true,obind_some]
            dsimp only
            have hr:SmL (l.take i ++ l.drop (i + 1)):=by rw [← s1];exact hl.filter _
            refine Eq.trans (refTail_val l (l.take i ++ l.drop (i + 1)) n hr hn1) ?_
            rw [hp]
            by_cases h64:64≤(l.take i ++ l.drop (i + 1)).length
            · rw [if_pos h64];simp only [h64,if_true]
            · rw [if_neg h64];simp only [h64,if_false]
          · have hs:sel (eqI x.2.1 2) (eqI n.2.1 2) false=false:=by
              unfold eqI
              by_cases h1:x.2.1=2
              · rw [decide_eq_true h1,sel_true];exact decide_eq_false fun h2=>hbo ⟨h1,h2⟩
              · rw [decide_eq_false h1,sel_false]
            rw [if_neg (show ¬ ((∃ x ∈ l,x.1=n.1∧x.2.1=2)∧n.2.1=2) from fun h=>by
              obtain ⟨⟨y,hy,e2,hy2⟩,h2⟩:=h
              have:=hv.ord.uniq hmem hy (by rw [hxp,e2])
              subst this
              exact hbo ⟨hy2,h2⟩)] at hp
            rw [hs,sel_false,without_val l n.1 true hl (by omega),withoutF_true]
            simp only [obind_some,sel_true]
            refine Eq.trans (refTail_val l (restF l n.1) n (hl.filter _) hn1) ?_
            rw [hp]
            by_cases h64:64≤(restF l n.1).length
            · rw [if_pos h64];simp only [h64,if_true]
            · rw [if_neg h64];simp only [h64,if_false]
        · have hne:¬ ((∃ x ∈ l,x.1=n.1∧x.2.1=2)∧n.2.1=2):=fun ⟨⟨y,hy,e2,_⟩,_⟩=>hno y hy e2
          rw [if_neg hne,restF_none hv (mayF_ne hm) hno] at hp
          rw [h,obind_some]
          dsimp only
          rw [show leI 0 (-1)=false by rfl]
          simp only [obind_some,sel_false]
          refine Eq.trans (refTail_val l l n hl hn1) ?_
          rw [hp]
          by_cases h64:64≤l.length
          · rw [if_pos h64];simp only [h64,if_true]
          · rw [if_neg h64];simp only [h64,if_false]
end Go.Ge

/- A tree's text, its nodes, its lists: in plain words. -/
namespace Go.Ge
set_option linter.unusedVariables false
set_option linter.unusedSimpArgs false

/-! ### The text -/
end Go.Ge

/- A tree's nodes, its lists; the law TreePuts: in plain words. -/
namespace Go.Ge
set_option linter.unusedVariables false
set_option linter.unusedSimpArgs false

def zeroN:Nd:=([],(0,(0,([],([],())))))
def findF (l:List Nd) (p:List UInt8):Nd×Bool×Unit:=match l.find? fun x=>decide (x.1=p) with
 | some x=>(x,(true,()))
 | none=>(zeroN,(false,()))

theorem find_none' {l:List Nd} {p:List UInt8} (h:∀ x ∈ l,x.1 ≠ p):findF l p=(zeroN,(false,())):=by
 unfold findF
 rw [List.find?_eq_none.2 (fun x hx=>by simp [h x hx])]
theorem find_some' {l:List Nd} (ho:Ord l) {p:List UInt8} {x:Nd} (hx:x ∈ l) (e:x.1=p):findF l p=(x,(true,())):=by
  unfold findF
  cases h:l.find? fun x=>decide (x.1=p) with
  | none=>have:=List.find?_eq_none.1 h x hx;simp [e] at this
  | some y =>
    have h1:=List.find?_some h
    have h2:=List.mem_of_find?_eq_some h
    have h1:y.1=p:=by simpa using h1
    have:=ho.uniq hx h2 (by rw [e,h1])
    subst this
    rfl

theorem tfind_val (l:List Nd) (p:List UInt8) (hl:SmL l) (hp:p.length≤4096) (hv:Valid l):P_tree_Find (l,(p,()))=some (findF l p):=by
  obtain ⟨e,c1,c2⟩:=check_val' l hl
  obtain rfl:=c2.2 hv
  obtain ⟨k,b,p1,p2,p3,p4⟩:=place_val l p hl hp
  have hpl:=p4 hv.ord
  unfold P_tree_Find
  dsimp only
  rw [c1,obind_some]
  dsimp only
  rw [show nt (eqI 0 0)=false by rfl,sel_false,p1,obind_some]
  dsimp only
  cases b with
  | false=>rw [nt_false,sel_true,find_none' (hpl.no rfl)];rfl
  | true =>
    obtain ⟨x,hx,e⟩:=hpl.is rfl
    rw [nt_true,sel_false,idx_some' hx,obind_some,find_some' hv.ord (List.mem_of_getElem? hx) e]

/-! ### What may be, told by a program -/
def ordB:List Nd→Bool
 | a :: b :: r=>decide (cmpL (key a) (key b) < 0) && ordB (b :: r)
 | _=>true
theorem ordB_ord:∀ {l:List Nd},ordB l=true→Ord l:=by
  intro l h
  refine ord_of_adj ?_
  induction l with
  | nil=>intro k x y hx;simp at hx
  | cons a r ih =>
    cases r with
    | nil=>intro k x y hx hy;simp at hy
    | cons b r =>
      simp only [ordB,Bool.and_eq_true,decide_eq_true_eq] at h
      intro k x y hx hy
      cases k with
      | zero =>
        obtain rfl:a=x:=by simpa using hx
        obtain rfl:b=y:=by simpa using hy
        exact h.1
      | succ k=>exact ih h.2 k x y hx hy
def validB (l:List Nd):Bool:=decide (l.length≤64) && ordB l && l.all mayF && l.all fun x=>decide ((splitF x.1).1=[]) || l.any fun y=>decide (y.1=(splitF x.1).1) && decide (y.2.1=2)
theorem validB_valid {l:List Nd} (h:validB l=true):Valid l:=by
 unfold validB at h
 simp only [Bool.and_eq_true,decide_eq_true_eq] at h
 refine ⟨h.1.1.1,ordB_ord h.1.1.2,fun x hx=>List.all_eq_true.1 h.1.2 x hx,fun x hx=>?_⟩
 have:=List.all_eq_true.1 h.2 x hx
 simp only [Bool.or_eq_true,decide_eq_true_eq,List.any_eq_true,Bool.and_eq_true] at this
 exact this
def t14_putB (l:List Nd) (n:Nd):List Nd×Int :=
 if (splitF n.1).1 ≠ []∧∀ x ∈ l,x.1 ≠ (splitF n.1).1 then ([],3) else
 if (splitF n.1).1 ≠ []∧∀ x ∈ l,x.1=(splitF n.1).1→x.2.1 ≠ 2 then ([],12) else
 let r:=if (∃ x ∈ l,x.1=n.1∧x.2.1=2)∧n.2.1=2 then l.filter (fun x=>!decide (x.1=n.1)) else restF l n.1
 if 64≤r.length then ([],5) else (insF r n,0)
theorem putF_eq {l:List Nd} {n:Nd} (hv:Valid l) (hm:mayF n=true):t14_putF l n=t14_putB l n:=by
 unfold t14_putF t14_putB
 rw [if_neg (show ¬ (¬ Valid l∨mayF n=false) from fun h=>h.elim (fun h=>h hv) (fun h=>by rw [hm] at h;cases h))]
/-! ### awake -/
theorem t14_same_self (l:List Nd) (hl:l.length≤4294967296):P_ref14_Same (l,(l,()))=some (true,()):=by
 unfold P_ref14_Same
 dsimp only
 rw [eqI_self,nt_true,sel_false]
 rcases srch (f:=P_ref14_Same_L0 (l,(l,()))) l (fun i=>((false,(i,())),())) (fun _ _=>false) (fun i x=>(1,((false,((i:Int),())),()))) ((0:Nat),((false,((l.length:Int),())),())) hl (fun i x hx hi ha=>by
   unfold P_ref14_Same_L0
   dsimp only
   rw [ltI_len_true hi,sel_true,sel_true,idx_some' hx,obind_some,obind_some,eqS_self,eqS_self,eqS_self,eqI_self,eqI_self,ha]
   rfl) (by unfold P_ref14_Same_L0;dsimp only;rw [ltI_len_end,sel_false,sel_false]) with ⟨i,x,_,hp,_⟩ | ⟨hn,h⟩
 ·cases hp
 ·rw [h];rfl

theorem few14_val (l:List Nd) (n:Nat) (c:Int) (hc:c=n) (hn:n≤4096):∃ b,P_ref14_Few (l,(c,()))=some (b,())∧(b=true→l.length≤n∧SmL l):=by
 subst hc
 unfold P_ref14_Few
 rcases srchTo (f:=P_ref14_Few_L0 (l,((n:Int),()))) l n (fun i=>((false,(i,())),())) (fun _ x=>decide (200 < x.1.length) || decide (200 < x.2.2.2.2.1.length) || decide (1024 < x.2.2.2.1.length)) (fun i x=>(1,((false,((i:Int),())),()))) (fun m=>(0,((false,((m:Int),())),()))) (by omega) (fun i x hx hi hin ha=>by
   unfold P_ref14_Few_L0
   dsimp only
   have l1:∀ {m:List UInt8},ltI 200 (len m)=decide (200 < m.length):=fun {m}=>by unfold ltI len;apply decide_eq_decide.2;omega
   have l2:∀ {m:List UInt8},ltI 1024 (len m)=decide (1024 < m.length):=fun {m}=>by unfold ltI len;apply decide_eq_decide.2;omega
   rw [ltI_len_true hi,sel_true,ltI_true (show (i:Int) < n by omega),sel_true,idx_some' hx,obind_some,obind_some,obind_some,l1,l1,l2,ha]
   cases decide (200 < x.1.length) <;> cases decide (200 < x.2.2.2.2.1.length) <;> cases decide (1024 < x.2.2.2.1.length) <;> rfl) (by
   unfold P_ref14_Few_L0
   dsimp only
   have:sel (ltI ((min n l.length:Nat):Int) (len l)) (ltI ((min n l.length:Nat):Int) (n:Int)) false=false:=by
    by_cases h:l.length≤n
    ·rw [Nat.min_eq_right h,ltI_len_end,sel_false]
    ·rw [Nat.min_eq_left (by omega),ltI_false (Int.le_refl _)]
     cases ltI (n:Int) (len l) <;> rfl
   rw [this,sel_false]) with ⟨i,x,hi,hx,hp,_,h⟩ | ⟨hn2,h⟩
 ·rw [h];exact ⟨false,rfl,fun h=>(by cases h)⟩
 ·rw [h]
  refine ⟨_,rfl,fun hb=>?_⟩
  dsimp only at hb
  rw [leI_len] at hb
  have h8:=of_decide_eq_true hb
  refine ⟨h8,by omega,fun x hx=>?_⟩
  obtain ⟨i,hi⟩:=mem_at.1 hx
  have:=hn2 i x (by have:=getElem?_lt hi;omega) hi
  simp only [Bool.or_eq_false_iff,decide_eq_false_iff_not,Nat.not_lt] at this
  exact ⟨this.1.1,by omega,by omega⟩

end Go.Ge
