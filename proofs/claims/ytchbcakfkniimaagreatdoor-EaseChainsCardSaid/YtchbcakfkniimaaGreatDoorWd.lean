/-
  A part of a proof.
-/
import Derived.Test.YtchbcakfkniimaaGreatDoorWc
set_option linter.unusedSimpArgs false
set_option linter.unusedVariables false
set_option linter.unusedSectionVars false
set_option maxRecDepth 100000
set_option maxHeartbeats 16000000
namespace Go.Abs
def lettersR(f:Int)(ls:List Let):Bool:=ls.all (okL f ls)
theorem insA_mem{ls:List Let}{o:List Nat}{i x:Nat}:x∈insA ls o i↔x∈o∨x=i:=by
 unfold insA;generalize (o.takeWhile (leftAt ls i)).length=K;constructor
 ·intro h;rcases List.mem_append.1 h with h|h
  ·exact .inl (List.mem_of_mem_take h)
  ·rcases List.mem_cons.1 h with h|h
   ·exact .inr h
   ·exact .inl (List.mem_of_mem_drop h)
 ·rintro (h|rfl)
  ·rw[← List.take_append_drop K o] at h;rcases List.mem_append.1 h with h|h
   ·exact List.mem_append.2 (.inl h)
   ·exact List.mem_append.2 (.inr (List.mem_cons.2 (.inr h)))
  ·simp
theorem axisK_mem{ls:List Let}: ∀ {k x:Nat},k≤ls.length→(x∈axisK ls k↔x<k∧ ∃ l,ls[x]? =some l∧l.isP=true):=by
 intro k
 induction k with
 |zero=>intro x _;simp[axisK]
 |succ k ih=>
  intro x hk;rw[axisK_succ];obtain⟨l,hl⟩:=at_lt (ls:=ls) (k:=k) (by omega);have ih:=ih (x:=x) (by omega);unfold axStep;rw[hl];simp only;by_cases hp:l.isP=true
  ·rw[if_pos hp,insA_mem,ih];constructor
   ·rintro (⟨h1,h2⟩|rfl)
    ·exact⟨by omega,h2⟩
    ·exact⟨by omega,l,hl,hp⟩
   ·rintro ⟨h1,h2⟩
    rcases Nat.lt_succ_iff_lt_or_eq.1 h1 with h|rfl
    ·exact .inl ⟨h,h2⟩
    ·exact .inr rfl
  ·rw[if_neg hp,ih];constructor
   ·rintro ⟨h1,h2⟩;exact⟨by omega,h2⟩
   ·rintro ⟨h1,m,hm,hm2⟩
    rcases Nat.lt_succ_iff_lt_or_eq.1 h1 with h|rfl
    ·exact⟨h,m,hm,hm2⟩
    ·rw[hl] at hm;cases hm;exact(hp hm2).elim
theorem axisR_mem{ls:List Let}{x:Nat}:x∈axisR ls↔ ∃ l,ls[x]? =some l∧l.isP=true:=by
 have:=axisK_mem (ls:=ls) (k:=ls.length) (x:=x) (Nat.le_refl _);have e:axisR ls=axisK ls ls.length:=rfl;rw[e,this];constructor
 ·rintro ⟨_,h⟩;exact h
 ·rintro ⟨l,h,h2⟩;exact⟨(List.getElem?_eq_some_iff.1 h).1,l,h,h2⟩
theorem letters_kind{f:Int}{ls:List Let}(h:lettersR f ls=true){v:Nat}{l:Let}(hv:ls[v]? =some l):l.isP=true∨l.isC=true:=by
 have:=(List.all_eq_true.1 h) l (List.mem_of_getElem? hv);unfold okL at this;unfold Let.isP Let.isC;cases h1:(l.kind==1) with
 |true=>exact .inl rfl
 |false=>
  cases h2:(l.kind==2) with
  |true=>exact .inr rfl
  |false=>rw[h1,h2] at this;simp at this
def nWalks(ls:List Let):Nat:=(walksL (turnD ls (axisR ls)) (2*ls.length+2*(axisR ls).length)).length
def validR(f:Int)(ls:List Let):Bool:=(match ls[0]? with|some l=>l.kind==1|none=>true)&&(cnt Let.isP ls%2==0)&&lettersR f ls&&(nWalks ls==cnt Let.isP ls+cnt Let.isC ls/2+2)
def checkR(f:Int)(ls:List Let):Int:=if 400<ls.length∨200<cnt Let.isC ls then 7 else if f<0∨40<f then 2 else if ls=[] then 0 else if validR f ls then 0 else 3
def badL(f:Int)(l:Let):Bool:=if l.kind==1 then (((decide (l.gate<0)||decide (f<l.gate))||l.id !=0)||l.sign !=0)||l.over else if l.kind==2 then (l.gate !=0||l.rank !=0)||(l.sign !=1&&l.sign != -1) else true
theorem badL_p(f:Int)(l:Let)(x1 x2 x3 x4 x5 x6:PV):PEv S 76 [letV l, .one (.p (.box [.box [.int .i64 f,x1,x2,x3,x4,x5,x6]]))] (rb (badL f l)):=by
 refine pev1 c76 ?_;cases k1:(l.kind==1) with
 |true=>
  cases a1:(decide (l.gate<0)) with
  |true=>
   have a1':(l.gate<0):=of_decide_eq_true a1;have hb:badL f l=true:=by simp only[badL,k1,a1];rfl
   simp only[go_sem,i76,k1,a1',hb];exact okd
  |false=>
   cases a2:(decide (f<l.gate)) with
   |true=>
    have a1': ¬ (l.gate<0):=of_decide_eq_false a1;have a2':(f<l.gate):=of_decide_eq_true a2;have hb:badL f l=true:=by simp only[badL,k1,a1,a2];rfl
    simp only[go_sem,i76,k1,a1',a2',hb];exact okd
   |false=>
    cases a3:(l.id !=0) with
    |true=>
     have a1': ¬ (l.gate<0):=of_decide_eq_false a1;have a2': ¬ (f<l.gate):=of_decide_eq_false a2;have hb:badL f l=true:=by simp only[badL,k1,a1,a2,a3];rfl
     simp only[go_sem,i76,k1,a1',a2',a3,hb];exact okd
    |false=>
     cases a4:(l.sign !=0) with
     |true=>
      have a1': ¬ (l.gate<0):=of_decide_eq_false a1;have a2': ¬ (f<l.gate):=of_decide_eq_false a2;have hb:badL f l=true:=by simp only[badL,k1,a1,a2,a3,a4];rfl
      simp only[go_sem,i76,k1,a1',a2',a3,a4,hb];exact okd
     |false=>
      cases a5:(l.over) with
      |true=>
       have a1': ¬ (l.gate<0):=of_decide_eq_false a1;have a2': ¬ (f<l.gate):=of_decide_eq_false a2;have hb:badL f l=true:=by simp only[badL,k1,a1,a2,a3,a4,a5];rfl
       simp only[go_sem,i76,k1,a1',a2',a3,a4,a5,hb];exact okd
      |false=>
       have a1': ¬ (l.gate<0):=of_decide_eq_false a1;have a2': ¬ (f<l.gate):=of_decide_eq_false a2;have hb:badL f l=false:=by simp only[badL,k1,a1,a2,a3,a4,a5];rfl
       simp only[go_sem,i76,k1,a1',a2',a3,a4,a5,hb];exact okd
 |false=>
  cases k2:(l.kind==2) with
  |true=>
   cases a1:(l.gate !=0) with
   |true=>
    have hb:badL f l=true:=by simp only[badL,k1,k2,a1];rfl
    simp only[go_sem,i76,k1,k2,a1,hb]
   |false=>
    cases a2:(l.rank !=0) with
    |true=>
     have hb:badL f l=true:=by simp only[badL,k1,k2,a1,a2];rfl
     simp only[go_sem,i76,k1,k2,a1,a2,hb]
    |false=>
     cases a3:(l.sign !=1) with
     |true=>
      cases a4:(l.sign != -1) with
      |true=>
       have hb:badL f l=true:=by simp only[badL,k1,k2,a1,a2,a3,a4];rfl
       simp only[go_sem,i76,k1,k2,a1,a2,a3,a4,hb]
      |false=>
       have hb:badL f l=false:=by simp only[badL,k1,k2,a1,a2,a3,a4];rfl
       simp only[go_sem,i76,k1,k2,a1,a2,a3,a4,hb]
     |false=>
      have hb:badL f l=false:=by simp only[badL,k1,k2,a1,a2,a3];rfl
      simp only[go_sem,i76,k1,k2,a1,a2,a3,hb]
  |false=>
   have hb:badL f l=true:=by simp only[badL,k1,k2];rfl
   simp only[go_sem,i76,k1,k2,hb]
abbrev dfn(f:Int)(x1 x2 x3 x4 x5 x6:PV):PV:= .fn 76 [] [.box [.box [.int .i64 f,x1,x2,x3,x4,x5,x6]]]
theorem bad_index(f:Int)(ls:List Let)(x1 x2 x3 x4 x5 x6:PV)(hl:ls.length≤1000000)(hn:x1.norm=x1∧x2.norm=x2∧x3.norm=x3∧x4.norm=x4∧x5.norm=x5∧x6.norm=x6):
  ∃ k:Int,(0≤k↔ls.any (badL f)=true)∧PEv S 98 [.one (.p (lsP ls)), .one (.p (dfn f x1 x2 x3 x4 x5 x6))] (ri k):=by
 have main: ∀ r:Int,(∀ (k:Nat) l,ls[k]? =some l→badL f l=true→(∀ (j:Nat) m,j<k→ls[j]? =some m→badL f m=false)→r=k)→((∀ (j:Nat) m,ls[j]? =some m→badL f m=false)→r= -1)→
   PEv S 98 [.one (.p (lsP ls)), .one (.p (dfn f x1 x2 x3 x4 x5 x6))] (ri r):=by
  intro r hr1 hr2;refine pev1 c98 ?_;simp only[go_sem,i98];refine R_for (fun k env blk=>env 0= .one (.p (lsP ls))∧env 1= .one (.p (dfn f x1 x2 x3 x4 x5 x6))∧env 7=vi ls.length∧env 8=vi k∧ ∀ j m,j<k→ls[j]? =some m→badL f m=false) 0 ls.length (Nat.zero_le _) ?_ ?_
  ·simp only[go_sem];exact⟨rfl,fun j m h=>absurd h (Nat.not_lt_zero j)⟩
  ·rintro k env blk hk ⟨h0,h1,h7,h8,hn⟩
   by_cases hlt:k<ls.length
   ·obtain⟨l,hkl⟩:=at_lt hlt;have hi:=ps_of hkl;have hlt':((k:Int)<(ls.length:Int)):=by omega
    have w1:=wrap_succ (n:=k) (by omega);have pb:=badL_p f l x1 x2 x3 x4 x5 x6;cases hb:badL f l with
    |true=>
     rw[hb] at pb;have hr:=hr1 k l hkl hb hn;subst hr;simp only[go_sem,i98_l1,h0,h1,h7,h8,hi,Let.ps,hlt',s76,gP_bool pb]
    |false=>
     rw[hb] at pb;simp only[go_sem,i98_l1,h0,h1,h7,h8,hi,Let.ps,hlt',w1,s76,gP_bool pb];refine⟨hlt,fun j m hj hm=> ?_⟩;rcases Nat.lt_succ_iff_lt_or_eq.1 hj with hj|rfl
     ·exact hn j m hj hm
     ·rw[hkl] at hm;cases hm;exact hb
   ·have:k=ls.length:=by omega
    subst this;have hr:=hr2 fun j m hm=>hn j m (List.getElem?_eq_some_iff.1 hm).1 hm
    subst hr;simp only[go_sem,i98_l1,i98_r2,h7,h8,no_more]
 cases ha:ls.any (badL f) with
 |true=>
  have hx:ls.findIdx (badL f)<ls.length:=List.findIdx_lt_length_of_exists (by simpa using ha);refine⟨(ls.findIdx (badL f):Nat),⟨fun _=>rfl,fun _=>by omega⟩,main _ ?_ ?_⟩
  ·intro k l hkl hb hn;have hk:=(List.getElem?_eq_some_iff.1 hkl).1;have h1:badL f ls[ls.findIdx (badL f)]=true:=List.findIdx_getElem;rcases Nat.lt_trichotomy (ls.findIdx (badL f)) k with h|h|h
   ·have:=hn _ _ h (List.getElem?_eq_getElem hx);rw[h1] at this;cases this
   ·rw[h]
   ·have:=List.not_of_lt_findIdx h;have e:ls[k]=l:=by rw[List.getElem?_eq_getElem hk] at hkl;exact Option.some.inj hkl
    rw[e,hb] at this;simp at this
  ·intro hn;have h1:badL f ls[ls.findIdx (badL f)]=true:=List.findIdx_getElem;have:=hn _ _ (List.getElem?_eq_getElem hx);rw[h1] at this;cases this
 |false=>
  refine⟨-1,⟨fun h=>by omega,fun h=>by cases h⟩,main _ ?_ (fun _=>rfl)⟩;intro k l hkl hb _;have:=List.any_eq_false.1 ha l (List.mem_of_getElem? hkl);exact(this hb).elim
theorem contains_p(f:Int)(ls:List Let)(x1 x2 x3 x4 x5 x6:PV)(hl:ls.length≤1000000)(hn:x1.norm=x1∧x2.norm=x2∧x3.norm=x3∧x4.norm=x4∧x5.norm=x5∧x6.norm=x6):
  PEv S 75 [.one (.p (lsP ls)), .one (.p (dfn f x1 x2 x3 x4 x5 x6))] (rb (ls.any (badL f))):=by
 obtain⟨k,hk,pk⟩:=bad_index f ls x1 x2 x3 x4 x5 x6 hl hn;refine pev1 c75 ?_;cases ha:ls.any (badL f) with
 |true=>
  have h0:=hk.2 ha;simp only[go_sem,i75,s98,gP_int pk,h0]
 |false=>
  have h0: ¬ 0≤k:=fun h=>by rw[hk.1 h] at ha;cases ha
  simp only[go_sem,i75,s98,gP_int pk,h0]
abbrev dgP(f:Int)(ls:List Let)(x2 x3 x4 x5 x6:PV):PV:= .box [.int .i64 f,lsP ls,x2,x3,x4,x5,x6]
theorem dletters_p(f:Int)(ls:List Let)(x2 x3 x4 x5 x6:PV)(hl:ls.length≤1000000)(hn:x2.norm=x2∧x3.norm=x3∧x4.norm=x4∧x5.norm=x5∧x6.norm=x6):
  PEv S 58 [.one (.p (dgP f ls x2 x3 x4 x5 x6))] (rb (!ls.any (badL f))):=by
 have pc:=contains_p f ls (lsP ls) x2 x3 x4 x5 x6 hl ⟨rfl,hn.1,hn.2.1,hn.2.2.1,hn.2.2.2.1,hn.2.2.2.2⟩;refine pev1 c58 ?_;simp only[go_sem,i58,s75,gP_bool pc]
theorem dbegins_p(f:Int)(ls:List Let)(l0:Let)(x2 x3 x4 x5 x6:PV)(hl:ls.length≤1000000)(h0:ls[0]? =some l0):
  PEv S 59 [.one (.p (dgP f ls x2 x3 x4 x5 x6))] (rb (l0.kind==1&&cnt Let.isP ls%2==0)):=by
 have pp:=passes_p f ls hl;have hi0:=ps_of h0;refine pev1 c59 ?_;have e2:((((cnt Let.isP ls)%2:Nat):Int)==0)=(cnt Let.isP ls%2==0):=by
  cases h:(cnt Let.isP ls%2==0) with
  |true=>simp at h ⊢;omega
  |false=>simp at h ⊢;omega
 cases hk:(l0.kind==1) with
 |true=>simp only[go_sem,i59,hi0,Let.ps,hk,s64,gP_int pp,tmod2,two_ne,e2]
 |false=>simp only[go_sem,i59,hi0,Let.ps,hk]
end Go.Abs
