/-
  Letters, codes, passes, visits, the axis, and the walk that turns left.
-/
import Derived.Test.YtnbfnkckmfibpaaGreatDoorSa
set_option linter.unusedSimpArgs false
set_option linter.unusedVariables false
set_option linter.unusedSectionVars false
set_option maxRecDepth 100000
set_option maxHeartbeats 16000000
namespace Go.Abs
structure ae where
 kind:Int
 gate:Int
 Th:Int
 id:Int
 sign:Int
 over:Bool
 deriving DecidableEq
def ae.ps(l:ae):List PV:=[.int .i64 l.kind, .int .i64 l.gate, .int .i64 l.Th, .int .i64 l.id, .int .i64 l.sign, .bool l.over]
def ae.bq(l:ae):Bool:=l.kind==1
def ae.aJ(l:ae):Bool:=l.kind==2
abbrev tY(ls:List ae):PV:= .sl (ls.map ae.ps)
abbrev aQ(f:Int)(ls:List ae):V:= .agg [.p (.int .i64 f), .p (tY ls)]
abbrev ie(f:Int)(ls:List ae):List C:=[.p (.int .i64 f), .p (tY ls)]
abbrev vi(k:Int):V:= .one (.p (.int .i64 k))
abbrev vb(b:Bool):V:= .one (.p (.bool b))
abbrev ri(k:Int):RV:= .one (.p (.int .i64 k))
abbrev rb(k:Bool):RV:= .one (.p (.bool k))
abbrev aD(p:ae->Bool)(ls:List ae):Nat:=ls.countP p
theorem ao{α:Type}{ls:List α}{k:Nat}(h:k<ls.length): ∃ l,ls[k]? =some l:=⟨ls[k],by simp[h]⟩
theorem eK{p:ae->Bool}{ls:List ae}{k:Nat}{l:ae}(h:ls[k]? =some l)(hp:p l=true):aD p (ls.take (k+1))=aD p (ls.take k)+1:=by
 unfold aD;obtain⟨hk,rfl⟩:=aag.1 h;rw[List.take_succ_eq_append_getElem hk,List.countP_append,List.countP_singleton,if_pos hp]
theorem bo{p:ae->Bool}{ls:List ae}{k:Nat}{l:ae}(h:ls[k]? =some l)(hp:p l=false):aD p (ls.take (k+1))=aD p (ls.take k):=by
 unfold aD;obtain⟨hk,rfl⟩:=aag.1 h;rw[List.take_succ_eq_append_getElem hk,List.countP_append,List.countP_singleton,hp];rfl
theorem dK(p:ae->Bool)(ls:List ae)(k:Nat):aD p (ls.take k)<=k:=aa5 List.countP_le_length (by rw[aaB];exact Nat.min_le_left _ _)
theorem dS(p:ae->Bool)(ls:List ae):aD p ls<=ls.length:=List.countP_le_length
theorem cD{ls:List ae}{k:Nat}{l:ae}(h:ls[k]? =some l):(ls.map ae.ps)[k]? =some l.ps:=by simp[h]
theorem wrap_add{a b:Nat}(h:a+b<=9223372036854775807):IntKind.i64.wrap ((a:Int)+(b:Int))=((a+b:Nat):Int):=wrap_small (n:=a+b) h
theorem bX{a:Nat}(h:2*a<=9223372036854775807):IntKind.i64.wrap (2*(a:Int))=((2*a:Nat):Int):=wrap_small (n:=2*a) h
theorem qp{a b:Nat}(h:b<=a)(h2:a<=9223372036854775807):IntKind.i64.wrap ((a:Int) - (b:Int))=((a - b:Nat):Int):=by
 have:((a:Int) - (b:Int))=((a - b:Nat):Int):=by omega
 rw[this];exact wrap_small (by omega)
theorem fU{a:Nat}(h:1<=a)(h2:a<=9223372036854775807):IntKind.i64.wrap ((a:Int) - 1)=((a - 1:Nat):Int):=qp (b:=1) h h2
def zO(x y:Option (List PV × List Nat))(f:Nat):Option (PV × List Nat):=match x,y with
 |some (x,r),some (y,s)=>some (.fn f x y,r++s)
 |_,_=>none
theorem zN{x y:List PV}{r s:List Nat}{f:Nat}:zO (some (x,r)) (some (y,s)) f=some (.fn f x y,r++s):=rfl
theorem JU{Tc:aB}{f:Nat}{a b:List C}:cH Tc bN (.hfn f a b)=zO (collect (cH Tc 5) a) (collect (cH Tc 5) b) f:=by
 unfold bN;rw[cH];unfold zO;rfl
theorem Bw{Tc:aB}{n id g off:Nat}:cH Tc (n+1) (.Tn id g off)=qA (Tc id) (collect (cH Tc n)) id g off:=by
 rw[cH];rfl
theorem Ee{Tc:aB}{n id g z off len:Nat}:cH Tc (n+1) (.hsl id g z off len)=uc (Tc id) (collect (collect (cH Tc n))) id g off len:=by
 rw[cH];rfl
theorem au{b:Bool}(h:b=true:=by kernel_rfl):b=true:=h
theorem aG{f:Nat}{fn:ca}{args:List V}{r:RV}(hf:S.fns f=some fn)(h:W S .all fn.body (pj .all fn.results fun v Tc=>en Tc v=some r) (nG args) qS)(hp:S.prim f args=none:=by rfl)(hl:args.length<=fn.ntmps:=by exact aaN rfl):aH S f args r:=R3 hp hf hl h
theorem aT: ¬ ((2:Int)=0):=by decide
theorem dq(a b:Nat):(a:Int).tmod b=((a%b:Nat):Int):=by rw[Int.tmod_eq_emod_of_nonneg (by omega)];rfl
theorem dB(a:Nat):(a:Int).tmod 2=((a%2:Nat):Int):=dq a 2
theorem ch(a:Nat):(a:Int).tdiv 2=((a/2:Nat):Int):=by rw[Int.tdiv_eq_ediv_of_nonneg (by omega)];rfl
theorem aN{n:Nat}: ¬ ((n:Int)<(n:Int)):=by omega
theorem ps_len(l:ae):l.ps.length=6:=rfl
theorem Ly{Tc:aB}{all:List Nat}:o9 Tc all []=some []:=rfl
attribute [go_sem] JU zN Bw Ee Ly
def o0(g:Int)(l:ae):Bool:=l.bq&&l.gate==g
def jD(g:Int)(l:ae):Bool:=l.aJ&&l.id==g
theorem vr(f:Int)(ls:List ae)(hl:ls.length<=1000000):aH S 47 [aQ f ls] (ri (aD ae.bq ls)):=by
 refine aG c47 ?_;simp only[go_sem,i47];refine be (fun k env _=>env 7= .one (.p (tY ls))/\env 8=vi ls.length/\env 9=vi k/\env 3=vi (aD ae.bq (ls.take k))) 0 ls.length (aah _) ?_ ?_
 ·simp only[go_sem];exact⟨rfl,rfl⟩
 ·rintro k env Tc hk ⟨h7,h8,h9,h3⟩
  by_cases Ti:k<ls.length
  ·obtain⟨l,TH⟩:=ao Ti;have hi:=cD TH;have Tk:((k:Int)<(ls.length:Int)):=by omega
   have hb:=dK (ae.bq) ls k;have w1:=am (n:=k) (by omega);have w2:=am (n:=aD (ae.bq) (ls.take k)) (by omega);cases hp:(l.kind==1) with
   |true=>
    have hc:=eK (p:=ae.bq) TH hp;simp only[go_sem,i47_l1,h3,h7,h8,h9,hi,ae.ps,Tk,w1,w2,hp,hc];first|exact Ti|exact⟨Ti,rfl⟩
   |false=>
    have hc:=bo (p:=ae.bq) TH hp;simp only[go_sem,i47_l1,h3,h7,h8,h9,hi,ae.ps,Tk,w1,hp,hc];first|exact Ti|exact⟨Ti,rfl⟩
  ·have:k=ls.length:=by omega
   subst this;rw[aa7] at h3;simp only[go_sem,i47_l1,i47_r2,h3,h8,h9,aN]
theorem sN(f:Int)(ls:List ae)(hl:ls.length<=1000000):aH S 73 [aQ f ls] (ri (aD ae.aJ ls)):=by
 refine aG c73 ?_;simp only[go_sem,i73];refine be (fun k env _=>env 7= .one (.p (tY ls))/\env 8=vi ls.length/\env 9=vi k/\env 3=vi (aD ae.aJ (ls.take k))) 0 ls.length (aah _) ?_ ?_
 ·simp only[go_sem];exact⟨rfl,rfl⟩
 ·rintro k env Tc hk ⟨h7,h8,h9,h3⟩
  by_cases Ti:k<ls.length
  ·obtain⟨l,TH⟩:=ao Ti;have hi:=cD TH;have Tk:((k:Int)<(ls.length:Int)):=by omega
   have hb:=dK (ae.aJ) ls k;have w1:=am (n:=k) (by omega);have w2:=am (n:=aD (ae.aJ) (ls.take k)) (by omega);cases hp:(l.kind==2) with
   |true=>
    have hc:=eK (p:=ae.aJ) TH hp;simp only[go_sem,i73_l1,h3,h7,h8,h9,hi,ae.ps,Tk,w1,w2,hp,hc];first|exact Ti|exact⟨Ti,rfl⟩
   |false=>
    have hc:=bo (p:=ae.aJ) TH hp;simp only[go_sem,i73_l1,h3,h7,h8,h9,hi,ae.ps,Tk,w1,hp,hc];first|exact Ti|exact⟨Ti,rfl⟩
  ·have:k=ls.length:=by omega
   subst this;rw[aa7] at h3;simp only[go_sem,i73_l1,i73_r2,h3,h8,h9,aN]
theorem tK(f:Int)(ls:List ae)(hl:ls.length<=1000000):aH S 48 [aQ f ls] (ri ((aD ae.aJ ls/2:Nat))):=by
 have hb:=dS ae.aJ ls;have e1:IntKind.i64.wrap ((aD ae.aJ ls:Int).tdiv 2)=((aD ae.aJ ls/2:Nat):Int):=by
  have:(aD ae.aJ ls:Int).tdiv 2=((aD ae.aJ ls/2:Nat):Int):=by rw[Int.tdiv_eq_ediv_of_nonneg (by omega)];omega
  rw[this];exact wrap_small (by omega)
 refine aG c48 ?_;simp only[go_sem,i48,s73,aS (sN f ls hl),e1,(by decide: ¬ (2:Int)=0)]
theorem B2(f:Int)(ls:List ae)(hl:ls.length<=1000000):aH S 34 [aQ f ls] (ri (aD ae.bq ls)):=by
 refine aG c34 ?_;simp only[go_sem,i34];refine be (fun k env Tc=>env 1= .one (.Tn 2176000000 1 0)/\Tc 2176000000=(1,some (.var (ie f ls)))/\env 4=vi k/\env 3=vi (aD ae.bq (ls.take k))) 0 ls.length (aah _) ?_ ?_
 ·simp only[go_sem];first|exact⟨rfl,rfl⟩|exact⟨rfl,rfl,rfl⟩
 ·rintro k env Tc hk ⟨Tw,hB,Vn,UH⟩
  by_cases Ti:k<ls.length
  ·obtain⟨l,TH⟩:=ao Ti;have hi:=cD TH;have Tk:((k:Int)<(ls.length:Int)):=by omega
   have hb:=dK (ae.bq) ls k;have w1:=am (n:=k) (by omega);have w2:=am (n:=aD (ae.bq) (ls.take k)) (by omega);cases hp:(l.kind==1) with
   |true=>
    have hc:=eK (p:=ae.bq) TH hp;simp only[go_sem,i34_l1,Tw,hB,Vn,UH,hi,ae.ps,Tk,w1,w2,hp,hc];first|exact Ti|exact⟨Ti,rfl⟩
   |false=>
    have hc:=bo (p:=ae.bq) TH hp;simp only[go_sem,i34_l1,Tw,hB,Vn,UH,hi,ae.ps,Tk,w1,hp,hc];first|exact Ti|exact⟨Ti,rfl⟩
  ·have:k=ls.length:=by omega
   subst this;rw[aa7] at UH;simp only[go_sem,i34_l1,i34_r2,Tw,hB,Vn,UH,aN]
theorem uK(f:Int)(ls:List ae)(hl:ls.length<=1000000):aH S 33 [aQ f ls] (ri (aD ae.aJ ls)):=by
 refine aG c33 ?_;simp only[go_sem,i33];refine be (fun k env Tc=>env 1= .one (.Tn 2112000000 1 0)/\Tc 2112000000=(1,some (.var (ie f ls)))/\env 4=vi k/\env 3=vi (aD ae.aJ (ls.take k))) 0 ls.length (aah _) ?_ ?_
 ·simp only[go_sem];first|exact⟨rfl,rfl⟩|exact⟨rfl,rfl,rfl⟩
 ·rintro k env Tc hk ⟨Tw,hB,Vn,UH⟩
  by_cases Ti:k<ls.length
  ·obtain⟨l,TH⟩:=ao Ti;have hi:=cD TH;have Tk:((k:Int)<(ls.length:Int)):=by omega
   have hb:=dK (ae.aJ) ls k;have w1:=am (n:=k) (by omega);have w2:=am (n:=aD (ae.aJ) (ls.take k)) (by omega);cases hp:(l.kind==2) with
   |true=>
    have hc:=eK (p:=ae.aJ) TH hp;simp only[go_sem,i33_l1,Tw,hB,Vn,UH,hi,ae.ps,Tk,w1,w2,hp,hc];first|exact Ti|exact⟨Ti,rfl⟩
   |false=>
    have hc:=bo (p:=ae.aJ) TH hp;simp only[go_sem,i33_l1,Tw,hB,Vn,UH,hi,ae.ps,Tk,w1,hp,hc];first|exact Ti|exact⟨Ti,rfl⟩
  ·have:k=ls.length:=by omega
   subst this;rw[aa7] at UH;simp only[go_sem,i33_l1,i33_r2,Tw,hB,Vn,UH,aN]
theorem js(f:Int)(ls:List ae)(hl:ls.length<=1000000):aH S 28 [aQ f ls] (ri ((aD ae.aJ ls/2:Nat))):=by
 have hb:=dS ae.aJ ls;have e1:IntKind.i64.wrap ((aD ae.aJ ls:Int).tdiv 2)=((aD ae.aJ ls/2:Nat):Int):=by
  have:(aD ae.aJ ls:Int).tdiv 2=((aD ae.aJ ls/2:Nat):Int):=by rw[Int.tdiv_eq_ediv_of_nonneg (by omega)];omega
  rw[this];exact wrap_small (by omega)
 refine aG c28 ?_;simp only[go_sem,i28,s33,aS (uK f ls hl),e1,(by decide: ¬ (2:Int)=0)]
theorem Od(f:Int)(ls:List ae)(hl:ls.length<=1000000)(g:Int):aH S 31 [aQ f ls,vi g] (ri (aD (o0 g) ls)):=by
 refine aG c31 ?_;simp only[go_sem,i31];refine be (fun k env Tc=>env 2= .one (.Tn 1984000000 1 0)/\Tc 1984000000=(1,some (.var (ie f ls)))/\env 6=vi k/\env 5=vi (aD (o0 g) (ls.take k))/\env 1=vi g) 0 ls.length (aah _) ?_ ?_
 ·simp only[go_sem];first|exact⟨rfl,rfl⟩|exact⟨rfl,rfl,rfl⟩
 ·rintro k env Tc hk ⟨Tw,hB,Vn,UH,ha1⟩
  by_cases Ti:k<ls.length
  ·obtain⟨l,TH⟩:=ao Ti;have hi:=cD TH;have Tk:((k:Int)<(ls.length:Int)):=by omega
   have hb:=dK ((o0 g)) ls k;have w1:=am (n:=k) (by omega);have w2:=am (n:=aD ((o0 g)) (ls.take k)) (by omega);cases hp:(l.kind==1) with
   |true=>
    cases hq:(l.gate==g) with
    |true=>
     have hc:=eK (p:=(o0 g)) TH (by simp only[o0,ae.bq,hp,hq];rfl);simp only[go_sem,i31_l1,Tw,hB,Vn,UH,hi,ae.ps,Tk,w1,w2,ha1,hp,hq,hc];first|exact Ti|exact⟨Ti,rfl⟩
    |false=>
     have hc:=bo (p:=(o0 g)) TH (by simp only[o0,ae.bq,hp,hq];rfl);simp only[go_sem,i31_l1,Tw,hB,Vn,UH,hi,ae.ps,Tk,w1,ha1,hp,hq,hc];first|exact Ti|exact⟨Ti,rfl⟩
   |false=>
    have hc:=bo (p:=(o0 g)) TH (by simp only[o0,ae.bq,hp];rfl);simp only[go_sem,i31_l1,Tw,hB,Vn,UH,hi,ae.ps,Tk,w1,ha1,hp,hc];first|exact Ti|exact⟨Ti,rfl⟩
  ·have:k=ls.length:=by omega
   subst this;rw[aa7] at UH;simp only[go_sem,i31_l1,i31_r2,Tw,hB,Vn,UH,aN]
theorem MX(f:Int)(ls:List ae)(hl:ls.length<=1000000)(g:Int):aH S 62 [aQ f ls,vi g] (ri (aD (jD g) ls)):=by
 refine aG c62 ?_;simp only[go_sem,i62];refine be (fun k env Tc=>env 2= .one (.Tn 3968000000 1 0)/\Tc 3968000000=(1,some (.var (ie f ls)))/\env 6=vi k/\env 5=vi (aD (jD g) (ls.take k))/\env 1=vi g) 0 ls.length (aah _) ?_ ?_
 ·simp only[go_sem];first|exact⟨rfl,rfl⟩|exact⟨rfl,rfl,rfl⟩
 ·rintro k env Tc hk ⟨Tw,hB,Vn,UH,ha1⟩
  by_cases Ti:k<ls.length
  ·obtain⟨l,TH⟩:=ao Ti;have hi:=cD TH;have Tk:((k:Int)<(ls.length:Int)):=by omega
   have hb:=dK ((jD g)) ls k;have w1:=am (n:=k) (by omega);have w2:=am (n:=aD ((jD g)) (ls.take k)) (by omega);cases hp:(l.kind==2) with
   |true=>
    cases hq:(l.id==g) with
    |true=>
     have hc:=eK (p:=(jD g)) TH (by simp only[jD,ae.aJ,hp,hq];rfl);simp only[go_sem,i62_l1,Tw,hB,Vn,UH,hi,ae.ps,Tk,w1,w2,ha1,hp,hq,hc];first|exact Ti|exact⟨Ti,rfl⟩
    |false=>
     have hc:=bo (p:=(jD g)) TH (by simp only[jD,ae.aJ,hp,hq];rfl);simp only[go_sem,i62_l1,Tw,hB,Vn,UH,hi,ae.ps,Tk,w1,ha1,hp,hq,hc];first|exact Ti|exact⟨Ti,rfl⟩
   |false=>
    have hc:=bo (p:=(jD g)) TH (by simp only[jD,ae.aJ,hp];rfl);simp only[go_sem,i62_l1,Tw,hB,Vn,UH,hi,ae.ps,Tk,w1,ha1,hp,hc];first|exact Ti|exact⟨Ti,rfl⟩
  ·have:k=ls.length:=by omega
   subst this;rw[aa7] at UH;simp only[go_sem,i62_l1,i62_r2,Tw,hB,Vn,UH,aN]
def dn (ls:List ae)(i:Nat):Bool:=aD ae.bq (ls.take i)%2==0
theorem wB(f:Int)(ls:List ae)(i:Nat)(hl:ls.length<=1000000)(hi0:i<=ls.length):aH S 98 [aQ f ls,vi i] (rb (dn ls i)):=by
 refine aG c98 ?_;simp only[go_sem,i98];refine be (fun k env Tc=>env 1=vi i/\env 2= .one (.Tn 6272000000 1 0)/\Tc 6272000000=(1,some (.var (ie f ls)))/\env 6=vi k/\env 5=vi (aD ae.bq (ls.take k))) 0 i (aah _) ?_ ?_
 ·simp only[go_sem];exact⟨rfl,rfl⟩
 ·rintro k env Tc hk ⟨h1,Tw,hB,Vn,UH⟩
  have hb:=dK ae.bq ls k;by_cases Ti:k<i
  ·obtain⟨l,TH⟩:=ao (ls:=ls) (k:=k) (by omega);have hi:=cD TH;have Tk:((k:Int)<(i:Int)):=by omega
   have w1:=am (n:=k) (by omega);have w2:=am (n:=aD ae.bq (ls.take k)) (by omega);cases hp:(l.kind==1) with
   |true=>
    have hc:=eK (p:=ae.bq) TH hp;simp only[go_sem,i98_l1,h1,Tw,hB,Vn,UH,hi,ae.ps,Tk,w1,w2,hp,hc];exact Ti
   |false=>
    have hc:=bo (p:=ae.bq) TH hp;simp only[go_sem,i98_l1,h1,Tw,hB,Vn,UH,hi,ae.ps,Tk,w1,hp,hc];exact Ti
  ·have:k=i:=by omega
   subst this;have e2:((((aD ae.bq (ls.take k))%2:Nat):Int)==0)=dn ls k:=by
    unfold dn;cases h:(aD ae.bq (ls.take k)%2==0) with
    |true=>simp at h ⊢;omega
    |false=>simp at h ⊢;omega
   simp only[go_sem,i98_l1,i98_r2,h1,Vn,UH,aN,aT,dB,e2]
theorem QR(a b:ae):aH S 100 [.agg (a.ps.map .p), .agg (b.ps.map .p)] (rb (decide (a.gate<b.gate)||(a.gate==b.gate&&decide (a.Th<b.Th)))):=by
 refine aG c100 ?_;by_cases h1:a.gate<b.gate
 ·simp only[go_sem,i100,ae.ps,h1]
 ·cases h2:(a.gate==b.gate) with
  |true=>simp only[go_sem,i100,ae.ps,h1,h2]
  |false=>simp only[go_sem,i100,ae.ps,h1,h2]
def cP(n i:Nat)(fw:Bool):Nat:=if fw then 2*i else 2*((i+n - 1)%n)+1
theorem A2(f:Int)(ls:List ae)(i:Nat)(fw:Bool)(hl:ls.length<=1000000)(hi:i<ls.length):aH S 101 [aQ f ls,vi i,vb fw] (ri (cP ls.length i fw)):=by
 refine aG c101 ?_;cases fw with
 |true=>
  have e:IntKind.i64.wrap (2*(i:Int))=((2*i:Nat):Int):=wrap_small (n:=2*i) (by omega);simp only[go_sem,i101,e,cP]
 |false=>
  have w1:IntKind.i64.wrap ((i:Int)+(ls.length:Int))=((i+ls.length:Nat):Int):=wrap_small (n:=i+ls.length) (by omega);have w2:IntKind.i64.wrap (((i+ls.length:Nat):Int) - 1)=((i+ls.length - 1:Nat):Int):=by
   have:(((i+ls.length:Nat):Int) - 1)=((i+ls.length - 1:Nat):Int):=by omega
   rw[this];exact wrap_small (by omega)
  have e1:=dq (i+ls.length - 1) ls.length;have hm:=aax (i+ls.length - 1) (show 0<ls.length by omega);have w3:IntKind.i64.wrap (2*(((i+ls.length - 1)%ls.length:Nat):Int))=((2*((i+ls.length - 1)%ls.length):Nat):Int):=wrap_small (n:=2*((i+ls.length - 1)%ls.length)) (by omega);have w4:=am (n:=2*((i+ls.length - 1)%ls.length)) (by omega);have hz: ¬ ((ls.length:Int)=0):=by omega
  simp only[go_sem,i101,w1,w2,e1,w3,w4,hz,cP]
def jX(ls:List ae)(i j:Nat):Bool:=j !=i&&(match ls[j]? with|some l=>l.aJ&&l.id==((ls[i]?).map ae.id).getD 0|none=>false)
def dk(ls:List ae)(i:Nat):Nat:=((List.range ls.length).find? (jX ls i)).getD i
theorem fh{p:Nat->Bool}: ∀ {n k:Nat},k<n->(∀ j,j<k->p j=false)->p k=true->(List.range n).find? p=some k:=by
 intro n k hk hn hp;exact List.find?_range_eq_some.2 ⟨hp,by simpa using hk,fun j hj=>by simp[hn j hj]⟩
theorem eD{p:Nat->Bool}{n:Nat}(hn: ∀ j,j<n->p j=false):(List.range n).find? p=none:=by
 rw[adr];intro x hx;simp[hn x (by simpa using hx)]
theorem NP(f:Int)(ls:List ae)(i:Nat)(hl:ls.length<=1000000)(hi0:i<ls.length):aH S 102 [aQ f ls,vi i] (ri (dk ls i)):=by
 obtain⟨li,hli⟩:=ao hi0;have Ut:=cD hli;have key: ∀ j l,ls[j]? =some l->jX ls i j=(j !=i&&(l.aJ&&l.id==li.id)):=fun j l h=>by simp[jX,h,hli]
 refine aG c102 ?_;simp only[go_sem,i102];refine be (fun k env Tc=>env 1=vi i/\env 2= .one (.Tn 6528000000 1 0)/\Tc 6528000000=(1,some (.var (ie f ls)))/\env 5=vi k/\ ∀ j,j<k->jX ls i j=false) 0 ls.length (aah _) ?_ ?_
 ·simp only[go_sem];exact⟨rfl,fun j h=>absurd h (abl j)⟩
 ·rintro k env Tc hk ⟨h1,Tw,hB,Vn,hn⟩
  by_cases Ti:k<ls.length
  ·obtain⟨l,TH⟩:=ao Ti;have hi:=cD TH;have Tk:((k:Int)<(ls.length:Int)):=by omega
   have w1:=am (n:=k) (by omega);have XK:=key k l TH;have step:jX ls i k=false-> ∀ j,j<k+1->jX ls i j=false:=fun h j hj=>by
    rcases aaW.1 hj with h2|rfl
    ·exact hn j h2
    ·exact h
   by_cases hki:k=i
   ·have hb:((k:Int)!=(i:Int))=false:=by simp[hki]
    have hs:=step (by rw[XK];simp[hki]);simp only[go_sem,i102_l1,h1,Tw,hB,Vn,Tk,w1,hb];exact⟨by kernel_rfl,Ti,hs⟩
   ·have hb:((k:Int)!=(i:Int))=true:=by simp;omega
    have Tv:(k !=i)=true:=by simp[hki]
    cases hp:(l.kind==2) with
    |false=>
     have hs:=step (by rw[XK,Tv,ae.aJ,hp];rfl);simp only[go_sem,i102_l1,h1,Tw,hB,Vn,hi,ae.ps,Tk,w1,hb,hp];exact⟨by kernel_rfl,Ti,hs⟩
    |true=>
     cases hq:(l.id==li.id) with
     |false=>
      have hs:=step (by rw[XK,Tv,ae.aJ,hp,hq];rfl);simp only[go_sem,i102_l1,h1,Tw,hB,Vn,hi,Ut,ae.ps,Tk,w1,hb,hp,hq];exact⟨by kernel_rfl,Ti,hs⟩
     |true=>
      have hf:dk ls i=k:=by
       unfold dk;rw[fh Ti hn (by rw[XK,Tv,ae.aJ,hp,hq];rfl)];rfl
      simp only[go_sem,i102_l1,h1,Tw,hB,Vn,hi,Ut,ae.ps,Tk,hb,hp,hq,hf];show dX _ _ _=true
      kernel_rfl
  ·have:k=ls.length:=by omega
   subst this;have hf:dk ls i=i:=by
    unfold dk;rw[eD hn];rfl
   simp only[go_sem,i102_l1,i102_r2,h1,Tw,hB,Vn,aN,hf]
abbrev jl(l:List Nat):PV:= .sl (l.map fun n:Nat=>[.int .i64 (n:Int)])
theorem at_r(l:List Nat)(n k0:Nat)(hl:l.length<=1000000)(hk0:l[k0]? =some n)(hn: ∀ j,j<k0->l[j]? ≠some n):aH S 103 [.one (.p (jl l)),vi n] (ri k0):=by
 have hk0l:=(aag.1 hk0).1;refine aG c103 ?_;simp only[go_sem,i103];refine be (fun k env Tc=>env 0= .one (.p (jl l))/\env 1=vi n/\env 5=vi k) 0 k0 (aah _) ?_ ?_
 ·simp only[go_sem];rfl
 ·rintro k env Tc hk ⟨h0,h1,h5⟩
  have Tk:((k:Int)<(l.length:Int)):=by omega
  have w1:=am (n:=k) (by omega);obtain⟨m,hm⟩:=ao (ls:=l) (k:=k) (by omega);have hi:(l.map fun n:Nat=>[PV.int .i64 (n:Int)])[k]? =some [.int .i64 (m:Int)]:=by simp[hm]
  by_cases Ti:k<k0
  ·have TA:((m:Int)==(n:Int))=false:=by
    have:m≠n:=fun e=>hn k Ti (by rw[hm,e])
    simp;omega
   simp only[go_sem,i103_l1,h0,h1,h5,Tk,w1,hi,TA];exact Ti
  ·have:k=k0:=by omega
   subst this;have e:m=n:=by rw[hm] at hk0;exact ab2 hk0
   subst e;simp only[go_sem,i103_l1,h0,h1,h5,Tk,hi]
abbrev vH(l:ae):V:= .agg [.p (.int .i64 l.kind), .p (.int .i64 l.gate), .p (.int .i64 l.Th), .p (.int .i64 l.id), .p (.int .i64 l.sign), .p (.bool l.over)]
def tA(a b:ae):Bool:=decide (a.gate<b.gate)||(a.gate==b.gate&&decide (a.Th<b.Th))
theorem N5(a b:ae):aH S 100 [vH a,vH b] (rb (tA a b)):=QR a b
abbrev nP(o:List Nat):List (List PV):=o.map fun n:Nat=>[PV.int .i64 (n:Int)]
theorem cN{o:List Nat}{k n:Nat}(h:o[k]? =some n):(nP o)[k]? =some [.int .i64 (n:Int)]:=by simp[h]
def lh(ls:List ae)(i j:Nat):Bool:=match ls[j]?,ls[i]? with
 |some a,some b=>tA a b
 |_,_=>false
def vL(ls:List ae)(o:List Nat)(i:Nat):List Nat:=o.take (o.takeWhile (lh ls i)).length++i::o.drop (o.takeWhile (lh ls i)).length
def lk(ls:List ae)(o:List Nat)(i:Nat):List Nat:=match ls[i]? with
 |some l=>if l.bq then vL ls o i else o
 |none=>o
def ah(ls:List ae):List Nat:=(List.range ls.length).foldl (lk ls) []
def gh(ls:List ae)(k:Nat):List Nat:=(List.range k).foldl (lk ls) []
theorem jc(ls:List ae)(k:Nat):gh ls (k+1)=lk ls (gh ls k) k:=by
 unfold gh;rw[abE,ads];rfl
theorem FQ{ls:List ae}{o:List Nat}{i:Nat}{x:Nat}(h:x∈lk ls o i):x∈o\/x=i:=by
 unfold lk at h;split at h
 ·split at h
  ·unfold vL at h;rcases aaM.1 h with h|h
   ·exact .inl (abM h)
   ·rcases aat.1 h with h|h
    ·exact .inr h
    ·exact .inl (abL h)
  ·exact .inl h
 ·exact .inl h
theorem rM{ls:List ae}: ∀ {k x:Nat},x∈gh ls k->x<k:=by
 intro k
 induction k with
 |zero=>intro x h;simp[gh] at h
 |succ k ih=>
  intro x h;rw[jc] at h;rcases FQ h with h|h
  ·have:=ih h;omega
  ·omega
theorem cn(ls:List ae): ∀ k,(gh ls k).length<=k:=by
 intro k
 induction k with
 |zero=>simp[gh]
 |succ k ih=>
  rw[jc];unfold lk;split
  ·split
   ·unfold vL;simp only[aay,aar,aaB,abY];omega
   ·omega
  ·omega
def Ca(site:Nat)(o:List Nat)(v:V)(Tc:aB):Prop:=(o=[]/\v= .one (.p .nils))\/(o≠[]/\ ∃ g,v= .one (.hsl site g 1 0 o.length)/\Tc site=(g,some (.arr 3 1 (nP o))))
theorem OV{o:List Nat}{i K:Nat}{env:Env}{Tc:aB}{Q:cZ}(ho:Ca 4032576640 o (env 3) Tc)(h4:env 4=vi i)(h5:env 5=vi K)(hK:K<=o.length)(hl:o.length<=1000000)
  (hq: ∀ Tg Td,Tg 1=env 1->Tg 4=env 4->Td 4032000000=Tc 4032000000->Ca 4032576640 (o.take K++i::o.drop K) (Tg 3) Td->Q .normal Tg Td):
  W S .all i63_r2 Q env Tc:=by
 rcases ho with ⟨rfl,h3⟩|⟨ho,g,h3,hC⟩
 ·have hK0:K=0:=by simpa using hK
  subst hK0;simp only[go_sem,i63_r2,h3,h4,h5,ac];refine⟨by kernel_rfl,hq _ _ ?_ ?_ ?_ (.inr ⟨by simp,(Tc 4032576640).1+1,?_,?_⟩)⟩;all_goals simp only[go_sem]
 ·have TQ: ∀ n:Nat,n<=1000001->n*8<=140737488355328:=fun n hn=>by omega
  by_cases hK0:K=0
  ·subst hK0;have ht:List.take o.length (nP o)=nP o:=aau (by simp);have T8:=TQ (1+o.length) (by omega);simp only[go_sem,i63_r2,h3,h4,h5,hC,ht,T8,ac];refine⟨by kernel_rfl,hq _ _ ?_ ?_ ?_ (.inr ⟨by simp,g+1,?_,?_⟩)⟩;all_goals simp only[go_sem]
   ·simp;omega
  ·have ht:(List.take K (nP o)).length=K:=by simp;omega
   have htt:List.take K (List.take K (nP o))=List.take K (nP o):=by rw[List.take_take,Nat.min_self]
   have Uq:List.take (K+1) (List.take K (nP o)++[[PV.int .i64 (i:Int)]])=List.take K (nP o)++[[PV.int .i64 (i:Int)]]:=aau (by simp;omega);have htd:List.take (o.length - K) (List.drop K (nP o))=List.drop K (nP o):=aau (by simp);have hld:(List.drop K (nP o)).length=o.length - K:=by simp
   have hla:(List.take K (nP o)++[[PV.int .i64 (i:Int)]]).length=K+1:=by simp;omega
   have T8:=TQ K (by omega);have YT:=TQ (K+1) (by omega);have hr3:=TQ (K+1+(o.length - K)) (by omega);have hle:K+(o.length - K)<=o.length:=by omega
   simp only[go_sem,i63_r2,h3,h4,h5,hC,hK,ht,hK0,T8,YT,hr3,htt,Uq,htd,hld,hla,hle,ac];refine⟨by kernel_rfl,hq _ _ ?_ ?_ ?_ (.inr ⟨by simp,g+1,?_,?_⟩)⟩;all_goals simp only[go_sem]
   ·simp;omega
   ·simp
theorem uR{α:Type}{p:α->Bool}{l:List α}{K:Nat}(hK:K<=l.length)(h1: ∀ j x,j<K->l[j]? =some x->p x=true)(h2: ∀ x,l[K]? =some x->p x=false):(l.takeWhile p).length=K:=by
 induction l generalizing K with
 |nil=>simp at hK ⊢;omega
 |cons a l ih=>
  cases K with
  |zero=>
   have:=h2 a rfl;simp[List.takeWhile,this]
  |succ K=>
   have:=h1 0 a (by omega) rfl;simp only[List.takeWhile,this,aar];rw[ih (by simpa using hK) (fun j x hj hx=>h1 (j+1) x (by omega) (by simpa using hx)) (fun x hx=>h2 x (by simpa using hx))]
theorem IW{ls:List ae}{f:Int}{o:List Nat}{i:Nat}{li:ae}{env:Env}{Tc:aB}{Q:cZ}(ho:Ca 4032576640 o (env 3) Tc)(h1:env 1= .one (.Tn 4032000000 1 0))(hB:Tc 4032000000=(1,some (.var (ie f ls))))(h4:env 4=vi i)(h5:env 5=vi 0)
  (hli:ls[i]? =some li) (Ti: ∀ x∈o,x<ls.length) (hl:o.length<=1000000)
  (hq: ∀ Tg Td,Tg 1=env 1->Tg 4=env 4->Td 4032000000=Tc 4032000000->Ca 4032576640 (vL ls o i) (Tg 3) Td->Q .normal Tg Td):
  W S .all (.loop i63_l1) (ey 2 (lu S .all i63_r2 Q)) env Tc:=by
 have Ut:=cD hli;refine be (fun k Tg Td=>Tg 1=env 1/\Tg 4=env 4/\Tg 3=env 3/\Td=Tc/\Tg 5=vi k/\ ∀ j x,j<k->o[j]? =some x->lh ls i x=true) 0 o.length (aah _) ?_ ?_
 ·exact⟨rfl,rfl,rfl,rfl,h5,fun j x hj=>absurd hj (abl j)⟩
 ·rintro k Tg Td hk ⟨Vd,h4',YL,rfl,h5',hp⟩
  rw[h1] at Vd;rw[h4] at h4';have fin: ∀ e:Env,e 1=Tg 1->e 4=Tg 4->e 3=Tg 3->e 5=Tg 5->(∀ x,o[k]? =some x->lh ls i x=false)->W S .all i63_r2 Q e Td:=by
   intro e e1 e4 e3 e5 Wm;have hK:=uR hk hp Wm;have Vh:Ca 4032576640 o (e 3) Td:=by rw[e3,YL];exact ho
   refine OV (i:=i) (K:=k) Vh (by rw[e4,h4']) (by rw[e5,h5']) hk hl ?_;intro Tz Tp q1 q2 q3 q4;refine hq Tz Tp (by rw[q1,e1,Vd,h1]) (by rw[q2,e4,h4',h4]) q3 ?_;unfold vL;rw[hK];exact q4
  by_cases TH:k<o.length
  ·obtain⟨x,hx⟩:=ao TH;have XC:=Ti x (aaf hx);obtain⟨lx,hlx⟩:=ao XC;have UW:=cD hlx;have hnx:=cN hx;have Tk:((k:Int)<(o.length:Int)):=by omega
   have w1:=am (n:=k) (by omega);have adp:lh ls i x=tA lx li:=by simp[lh,hlx,hli]
   have abX:=N5 lx li;rcases ho with ⟨rfl,_⟩|⟨ho,g,h3,hC⟩
   ·simp at TH
   ·rw[h3] at YL;cases hb:tA lx li with
    |true=>
     rw[hb] at abX;simp only[go_sem,i63_l1,h1,h3,h4,Vd,YL,h4',h5',hB,hC,Tk,hnx,UW,Ut,ae.ps,TH,w1,s100,aw abX];refine⟨by kernel_rfl,fun j y hj hy=> ?_⟩;rcases aaW.1 hj with hj|rfl
     ·exact hp j y hj hy
     ·rw[hx] at hy;cases hy;rw[adp,hb]
    |false=>
     rw[hb] at abX;simp only[go_sem,i63_l1,Vd,YL,h4',h5',hB,hC,Tk,hnx,UW,Ut,ae.ps,TH,s100,aw abX];refine⟨by kernel_rfl,fin _ ?_ ?_ ?_ ?_ (fun y hy=>by rw[hx] at hy;cases hy;rw[adp,hb])⟩;all_goals simp only[go_sem,Vd,YL,h4',h5']
  ·have:k=o.length:=by omega
   subst this;have TW: ∀ x,o[o.length]? =some x->lh ls i x=false:=fun x hx=>by simp at hx
   rcases ho with ⟨rfl,h3⟩|⟨ho,g,h3,hC⟩
   ·rw[h3] at YL;simp only[go_sem,i63_l1,YL,h5',aN];refine⟨by kernel_rfl,fin _ ?_ ?_ ?_ ?_ TW⟩;all_goals simp only[go_sem,Vd,YL,h4',h5']
   ·rw[h3] at YL;simp only[go_sem,i63_l1,YL,h5',aN];refine⟨by kernel_rfl,fin _ ?_ ?_ ?_ ?_ TW⟩;all_goals simp only[go_sem,Vd,YL,h4',h5']
theorem Lc(ls:List ae)(o:List Nat)(i:Nat):(vL ls o i).length=o.length+1:=by
 unfold vL;simp only[aay,aar,aaB,abY];have:=(List.takeWhile_sublist (lh ls i) (l:=o)).length_le;omega
theorem lC{Tc:aB}{id g z len ty:Nat}{es:List (List PV)}(h:Tc id=(g,some (.arr ty z es)))(hl:len=es.length):en Tc (.one (.hsl id g z 0 len))=some (.one (.own ty z es)):=by
 subst hl;simp only[en,et,cb,dg,eo,h,aal,and_self,if_true,aa7];rfl
def wU(o:List Nat):RC:=if o=[] then .p .nils else .own 3 1 (nP o)
theorem Mh(f:Int)(ls:List ae)(hl:ls.length<=1000000):aH S 63 [aQ f ls] (.one (wU (ah ls))):=by
 refine aG c63 ?_;simp only[go_sem,i63];refine be (fun k env Tc=>env 1= .one (.Tn 4032000000 1 0)/\Tc 4032000000=(1,some (.var (ie f ls)))/\env 4=vi k/\Ca 4032576640 (gh ls k) (env 3) Tc) 0 ls.length (aah _) ?_ ?_
 ·simp only[go_sem];exact⟨rfl, .inl ⟨rfl,rfl⟩⟩
 ·rintro k env Tc hk ⟨h1,hB,h4,ho⟩
  have T7:=cn ls k;by_cases Ti:k<ls.length
  ·obtain⟨l,TH⟩:=ao Ti;have hi:=cD TH;have Tk:((k:Int)<(ls.length:Int)):=by omega
   have w1:=am (n:=k) (by omega);have hs:=jc ls k;unfold lk at hs;rw[TH] at hs;cases hp:(l.kind==1) with
   |false=>
    have Ws:(l.kind !=1)=true:=by simp[bne,hp]
    simp only[ae.bq,hp] at hs;have hs:gh ls (k+1)=gh ls k:=hs;simp only[go_sem,i63_l4,i63_r3,h1,hB,h4,hi,ae.ps,Tk,Ws,w1,hs,Ti];rcases ho with ⟨e,h3⟩|⟨ho,g,h3,hC⟩
    ·exact .inl ⟨e,by simp only[go_sem,h3]⟩
    ·exact .inr ⟨ho,g,by simp only[go_sem,h3],by simp only[go_sem,hC]⟩
   |true=>
    have Ws:(l.kind !=1)=false:=by simp[bne,hp]
    simp only[ae.bq,hp] at hs;have hs:gh ls (k+1)=vL ls (gh ls k) k:=hs;simp only[go_sem,i63_l4,h1,hB,h4,hi,ae.ps,Tk,Ws];refine IW (ls:=ls) (f:=f) (o:=gh ls k) (i:=k) ?_ ?_ ?_ ?_ ?_ TH (fun x hx=>Nat.lt_trans (rM hx) Ti) (by omega) ?_
    ·rcases ho with ⟨e,h3⟩|⟨ho,g,h3,hC⟩
     ·exact .inl ⟨e,by simp only[go_sem,h3]⟩
     ·exact .inr ⟨ho,g,by simp only[go_sem,h3],by simp only[go_sem,hC]⟩
    ·simp only[go_sem,h1]
    ·simp only[go_sem,hB]
    ·simp only[go_sem,h4]
    ·rfl
    ·intro Tg Td q1 q2 q3 q4;simp only[go_sem,h1,h4,hB] at q1 q2 q3;simp only[go_sem,i63_r3,q1,q2,q3,w1,hs,Ti];rcases q4 with ⟨e,h3⟩|⟨ho,g,h3,hC⟩
     ·exact .inl ⟨e,by simp only[go_sem,h3]⟩
     ·exact .inr ⟨ho,g,by simp only[go_sem,h3],by simp only[go_sem,hC]⟩
  ·have:k=ls.length:=by omega
   subst this;have he:ah ls=gh ls ls.length:=rfl;rw[<- he] at ho;rcases ho with ⟨e,h3⟩|⟨ho,g,h3,hC⟩
   ·simp only[go_sem,i63_l4,i63_r5,h1,hB,h3,h4,aN,wU,e]
   ·simp only[go_sem,i63_l4,i63_r5,h1,hB,h3,h4,aN,wU,ho];exact lC hC (by simp)
def ce(ls:List ae)(ax:List Nat)(d:Nat):Nat:=
 if 2*ls.length<=d then
  if d%2=0 then cP ls.length (ax.getD (((d - 2*ls.length)/2+1)%ax.length) 0) (!dn ls (ax.getD (((d - 2*ls.length)/2+1)%ax.length) 0))
  else cP ls.length (ax.getD ((d - 2*ls.length)/2) 0) (dn ls (ax.getD ((d - 2*ls.length)/2) 0))
 else
  let fw:=d%2==0
  let v:=if fw then (d/2+1)%ls.length else d/2
  match ls[v]? with
  |none=>0
  |some l=>if l.kind==2 then cP ls.length (dk ls v) (fw==(l.over==(l.sign==1)))
   else if dn ls v==fw then 2*ls.length+2*ax.idxOf v else 2*ls.length+2*((ax.idxOf v+ax.length - 1)%ax.length)+1
theorem yf{ls:List ae}{i:Nat}(hi:i<ls.length):dk ls i<ls.length:=by
 unfold dk;cases h:(List.range ls.length).find? (jX ls i) with
 |none=>exact hi
 |some k=>
  have:=adt h
  simpa using this
theorem ft{n i:Nat}{fw:Bool}(hi:i<n):cP n i fw<2*n:=by
 unfold cP;have:=aax (i+n - 1) (show 0<n by omega);split<;>omega
theorem qq{ls:List ae}{ax:List Nat}{d:Nat}(nJ: ∀ x∈ax,x<ls.length)(hp: ∀ v l,ls[v]? =some l->(l.kind==2)=false->v∈ax)(hd:d<2*ls.length+2*ax.length):ce ls ax d<2*ls.length+2*ax.length:=by
 have WL: ∀ k,k<ax.length->ax.getD k 0<ls.length:=fun k hk=>by
  obtain⟨x,hx⟩:=ao hk;rw[aap,hx];exact nJ x (aaf hx)
 unfold ce;by_cases h:2*ls.length<=d
 ·rw[if_pos h];have hm:=aax ((d - 2*ls.length)/2+1) (show 0<ax.length by omega);by_cases h2:d%2=0
  ·rw[if_pos h2];exact ab3 (ft (WL _ hm)) (by omega)
  ·rw[if_neg h2];exact ab3 (ft (WL _ (by omega))) (by omega)
 ·rw[if_neg h];have hn:0<ls.length:=by omega
  have hv:(if (d%2==0)=true then (d/2+1)%ls.length else d/2)<ls.length:=by
   split
   ·exact aax _ hn
   ·omega
  simp only;generalize (if (d%2==0)=true then (d/2+1)%ls.length else d/2)=v at hv;obtain⟨l,hl⟩:=ao hv;rw[hl];simp only;by_cases hk:(l.kind==2)=true
  ·rw[if_pos hk];exact ab3 (ft (yf hv)) (by omega)
  ·rw[if_neg hk];have Y1:=hp v l hl (by simpa using hk);have hix:ax.idxOf v<ax.length:=List.idxOf_lt_length_iff.2 Y1;have hm:=aax (ax.idxOf v+ax.length - 1) (show 0<ax.length by omega);split<;>omega
theorem Cy{ax:List Nat}{v:Nat}: ∀ j,j<ax.idxOf v->ax[j]? ≠some v:=by
 induction ax with
 |nil=>intro j h;simp at h
 |cons a ax ih=>
  intro j h e;rw[List.idxOf_cons] at h;by_cases ha:a=v
  ·simp[ha] at h
  ·have hb:(a==v)=false:=by simpa using ha
   rw[hb] at h;cases j with
   |zero=>simp at e;exact ha e
   |succ j=>exact ih j (by simp at h;omega) (by simpa using e)
theorem yG{ax:List Nat}{v:Nat}(h:v∈ax):ax[ax.idxOf v]? =some v:=by
 have hl:ax.idxOf v<ax.length:=List.idxOf_lt_length_iff.2 h;rw[abJ hl,List.getElem_idxOf hl]
theorem Qh(f:Int)(ls:List ae)(ax:List Nat)(d:Nat)(hl:ls.length<=1000000)(UG:ax.length<=1000000)(nJ: ∀ x∈ax,x<ls.length)(hp: ∀ v l,ls[v]? =some l->(l.kind==2)=false->v∈ax)
  (hd:d<2*ls.length+2*ax.length):aH S 64 [aQ f ls, .one (.p (jl ax)),vi d] (ri (ce ls ax d)):=by
 have m1:IntKind.i64.wrap (2*(ls.length:Int))=((2*ls.length:Nat):Int):=wrap_small (n:=2*ls.length) (by omega);unfold ce;by_cases h:2*ls.length<=d
 ·rw[if_pos h];refine aG c64 ?_;have h':((2*ls.length:Nat):Int)<=(d:Int):=by omega
  have m2:IntKind.i64.wrap ((d:Int) - ((2*ls.length:Nat):Int))=((d - 2*ls.length:Nat):Int):=by
   have:((d:Int) - ((2*ls.length:Nat):Int))=((d - 2*ls.length:Nat):Int):=by omega
   rw[this];exact wrap_small (by omega)
  have m3:=wrap_small (n:=(d - 2*ls.length)/2) (by omega);have hm:=aax ((d - 2*ls.length)/2+1) (show 0<ax.length by omega);have VF: ¬ ((ax.length:Int)=0):=by omega
  by_cases h2:d%2=0
  ·rw[if_pos h2];have m4:=am (n:=(d - 2*ls.length)/2) (by omega);have US:(((d%2:Nat):Int)==0)=true:=by simp[h2]
   have m5:=dq ((d - 2*ls.length)/2+1) ax.length;obtain⟨v,hv⟩:=ao hm;have YQ:ax.getD (((d - 2*ls.length)/2+1)%ax.length) 0=v:=by rw[aap,hv];rfl
   rw[YQ];have Xr:=nJ v (aaf hv);have WH:=cN hv;have pd:=wB f ls v hl (by omega);have pa:=A2 f ls v (!dn ls v) hl Xr;simp only[go_sem,i64,m1,m2,m3,m4,m5,h',US,WH,VF,dB,ch,aT,s98,s101,aw pd,bg pa];exact au
  ·rw[if_neg h2];have US:(((d%2:Nat):Int)==0)=false:=by simp;omega
   obtain⟨v,hv⟩:=ao (ls:=ax) (k:=(d - 2*ls.length)/2) (by omega);have YQ:ax.getD ((d - 2*ls.length)/2) 0=v:=by rw[aap,hv];rfl
   rw[YQ];have Xr:=nJ v (aaf hv);have WH:=cN hv;have pd:=wB f ls v hl (by omega);have pa:=A2 f ls v (dn ls v) hl Xr;simp only[go_sem,i64,m1,m2,m3,h',US,WH,dB,ch,aT,s98,s101,aw pd,bg pa];exact au
 ·rw[if_neg h];have h': ¬ (((2*ls.length:Nat):Int)<=(d:Int)):=by omega
  have m3:=wrap_small (n:=d/2) (by omega);have UY: ¬ ((ls.length:Int)=0):=by omega
  have VF:=aax (d/2+1) (show 0<ls.length by omega);have m4:=am (n:=d/2) (by omega);have m5:=dq (d/2+1) ls.length;have body: ∀ v:Nat,v<ls.length-> ∀ fw:Bool,v=(if fw then (d/2+1)%ls.length else d/2)->(d%2==0)=fw->(((d%2:Nat):Int)==0)=fw->aH S 64 [aQ f ls, .one (.p (jl ax)),vi d] (ri ((match ls[v]? with
    |none=>0
    |some l=>if l.kind==2 then cP ls.length (dk ls v) (fw==(l.over==(l.sign==1)))
     else if dn ls v==fw then 2*ls.length+2*ax.idxOf v else 2*ls.length+2*((ax.idxOf v+ax.length - 1)%ax.length)+1:Nat):Int)):=by
   intro v hv fw Uh hfw UC;obtain⟨l,Wg⟩:=ao hv;have Ux:=cD Wg;rw[Wg];simp only;refine aG c64 ?_;cases hk:(l.kind==2) with
   |true=>
    have po:=NP f ls v hl hv;have pa:=A2 f ls (dk ls v) (fw==(l.over==(l.sign==1))) hl (yf hv);cases fw with
    |true=>
     have Uh:v=(d/2+1)%ls.length:=Uh;rw[Uh] at Ux po pa ⊢;simp only[go_sem,i64,m1,m3,m4,m5,h',UC,Ux,ae.ps,UY,hk,dB,ch,aT,s102,s101,bg po,bg pa];exact au
    |false=>
     have Uh:v=d/2:=Uh;rw[Uh] at Ux po pa ⊢;simp only[go_sem,i64,m1,m3,h',UC,Ux,ae.ps,hk,dB,ch,aT,s102,s101,bg po,bg pa];exact au
   |false=>
    have Y1:=hp v l Wg hk;have hix:ax.idxOf v<ax.length:=List.idxOf_lt_length_iff.2 Y1;have pat:=at_r ax v (ax.idxOf v) UG (yG Y1) Cy;have pd:=wB f ls v hl (by omega);have aaZ: ¬ ((ax.length:Int)=0):=by omega
    have Vi:=aax (ax.idxOf v+ax.length - 1) (show 0<ax.length by omega);have n1:=bX (a:=ax.idxOf v) (by omega);have n2:=wrap_add (a:=2*ls.length) (b:=2*ax.idxOf v) (by omega);have n3:=wrap_add (a:=ax.idxOf v) (b:=ax.length) (by omega);have n4:=fU (a:=ax.idxOf v+ax.length) (by omega) (by omega);have n5:=dq (ax.idxOf v+ax.length - 1) ax.length;have n6:=bX (a:=(ax.idxOf v+ax.length - 1)%ax.length) (by omega);have n7:=wrap_add (a:=2*ls.length) (b:=2*((ax.idxOf v+ax.length - 1)%ax.length)) (by omega)
    have n8:=am (n:=2*ls.length+2*((ax.idxOf v+ax.length - 1)%ax.length)) (by omega);cases fw with
    |true=>
     have Uh:v=(d/2+1)%ls.length:=Uh;cases UE:dn ls v with
     |true=>
      rw[UE] at pd;subst Uh;simp only[go_sem,i64,m1,m3,m4,m5,h',UC,Ux,ae.ps,UY,hk,dB,ch,aT,s103,s98,aS pat,aa pd,n1,n2]
     |false=>
      rw[UE] at pd;subst Uh;simp only[go_sem,i64,m1,m3,m4,m5,h',UC,Ux,ae.ps,UY,hk,dB,ch,aT,s103,s98,aS pat,aa pd,n3,n4,n5,n6,n7,n8,aaZ]
    |false=>
     have Uh:v=d/2:=Uh;cases UE:dn ls v with
     |true=>
      rw[UE] at pd;subst Uh;simp only[go_sem,i64,m1,m3,h',UC,Ux,ae.ps,hk,dB,ch,aT,s103,s98,aS pat,aa pd,n3,n4,n5,n6,n7,n8,aaZ]
     |false=>
      rw[UE] at pd;subst Uh;simp only[go_sem,i64,m1,m3,h',UC,Ux,ae.ps,hk,dB,ch,aT,s103,s98,aS pat,aa pd,n1,n2]
  have Xr:(if (d%2==0)=true then (d/2+1)%ls.length else d/2)<ls.length:=by
   split
   ·exact VF
   ·omega
  have:=body _ Xr (d%2==0) rfl rfl (by cases hq:(d%2==0)<;>simp at hq ⊢ <;>omega);exact this
abbrev bP(o:List Bool):List (List PV):=o.map fun b:Bool=>[PV.bool b]
theorem ig{o:List Bool}{k:Nat}{b:Bool}(h:o[k]? =some b):(bP o)[k]? =some [.bool b]:=by simp[h]
theorem sT(o:List Bool)(k:Nat)(b:Bool):(bP o).set k [.bool b]=bP (o.set k b):=by simp[abU]
def bQ(next:Nat->Nat):Nat->Nat->List Bool->List Nat × List Bool
 |0,_,seen=>([],seen)
 |k+1,x,seen=>if seen.getD x true then ([],seen) else (x::(bQ next k (next x) (seen.set x true)).1,(bQ next k (next x) (seen.set x true)).2)
def jw(s:List Bool):Nat:=s.countP (fun b=> !b)
theorem jT{s:List Bool}{x:Nat}(h:s[x]? =some false):jw (s.set x true)+1=jw s:=by
 induction s generalizing x with
 |nil=>simp at h
 |cons b s ih=>
  cases x with
  |zero=>
   simp at h;subst h;simp[jw]
  |succ x=>
   have:=ih (x:=x) (by simpa using h);unfold jw at this ⊢;simp only[List.set_cons_succ,abV];omega
theorem Hp(next:Nat->Nat): ∀ (k x:Nat) (s:List Bool),(bQ next k x s).2.length=s.length:=by
 intro k
 induction k with
 |zero=>intro x s;rfl
 |succ k ih=>
  intro x s;unfold bQ;split
  ·rfl
  ·simp[ih]
def d9(next:Nat->Nat)(st:List (List Nat) × List Bool)(d:Nat):List (List Nat) × List Bool:=
 if st.2.getD d true then st else (st.1++[(bQ next (st.2.length+1) d st.2).1],(bQ next (st.2.length+1) d st.2).2)
def aL(next:Nat->Nat)(N k:Nat):List (List Nat) × List Bool:=(List.range k).foldl (d9 next) ([],List.replicate N false)
def bt(next:Nat->Nat)(N:Nat):List (List Nat):=(aL next N N).1
theorem de(next:Nat->Nat)(N k:Nat):aL next N (k+1)=d9 next (aL next N k) k:=by
 unfold aL;rw[abE,ads];rfl
theorem gH(next:Nat->Nat)(N:Nat): ∀ k,(aL next N k).2.length=N:=by
 intro k
 induction k with
 |zero=>simp[aL]
 |succ k ih=>
  rw[de];unfold d9;split
  ·exact ih
  ·simp[Hp,ih]
theorem Hm(next:Nat->Nat)(N k:Nat)(hk:1<=k)(hN:1<=N):(aL next N k).1≠[]:=by
 induction k with
 |zero=>omega
 |succ k ih=>
  rw[de];by_cases h0:k=0
  ·subst h0;have hz:(aL next N 0)=([],List.replicate N false):=rfl;have hg:(List.replicate N false).getD 0 true=false:=by
    obtain⟨n,rfl⟩: ∃ n,N=n+1:=⟨N - 1,by omega⟩;rfl
   rw[hz];unfold d9;simp only[hg];simp
  ·have:=ih (by omega);unfold d9;split
   ·exact this
   ·simp
theorem gY(next:Nat->Nat)(N:Nat): ∀ k,(aL next N k).1.length<=k:=by
 intro k
 induction k with
 |zero=>simp[aL]
 |succ k ih=>
  rw[de];unfold d9;split
  ·omega
  ·simp;exact ih
theorem jN(s:List Bool):jw s<=s.length:=List.countP_le_length
theorem Qg{f:Int}{ls:List ae}{ax:List Nat}(hl:ls.length<=1000000)(UG:ax.length<=1000000)(nJ: ∀ x∈ax,x<ls.length)(hp: ∀ v l,ls[v]? =some l->(l.kind==2)=false->v∈ax){Q:cZ}:
  ∀ (fuel x:Nat) (sn:List Bool) (w:List Nat) (env:Env) (Tc:aB),env 1= .one (.Tn 2304000000 1 0)->Tc 2304000000=(1,some (.var (ie f ls)))->
   env 4= .one (.hsl 2304128064 1 1 0 ax.length)->Tc 2304128064=(1,some (.arr 3 1 (nP ax)))->env 5= .one (.hsl 2304192512 1 1 0 sn.length)->Tc 2304192512=(1,some (.arr 4 1 (bP sn)))->
   Ca 2304832192 w (env 7) Tc->env 8=vi x->x<sn.length->sn.length=2*ls.length+2*ax.length->jw sn<fuel->w.length+jw sn<=5000000->
   (∀ Tg Td,Tg 1=env 1->Tg 3=env 3->Tg 4=env 4->Tg 5=env 5->Tg 6=env 6->Td 2304000000=Tc 2304000000->Td 2304128064=Tc 2304128064->Td 2304896192=Tc 2304896192->Td 2304896128=Tc 2304896128->
    Td 2304192512=(1,some (.arr 4 1 (bP (bQ (ce ls ax) fuel x sn).2)))->Ca 2304832192 (w++(bQ (ce ls ax) fuel x sn).1) (Tg 7) Td->Q .normal Tg Td)->
   W S .all (.loop i36_l1) (ey 2 Q) env Tc:=by
 intro fuel
 induction fuel with
 |zero=>intro x sn w env Tc _ _ _ _ _ _ _ _ _ _ h;omega
 |succ fuel ih=>
  intro x sn w env Tc h1 hB h4 hA h5 hS ho h8 hx hsl hu hw hq;obtain⟨b,hb⟩:=ao hx;have Wn:=ig hb;have hgd:sn.getD x true=b:=by rw[aap,hb];rfl
  unfold bQ at hq;rw[hgd] at hq;refine dV ?_;cases b with
  |true=>
   simp only[go_sem,i36_l1,h5,hS,h8,hx,Wn];refine hq _ _ ?_ ?_ ?_ ?_ ?_ rfl rfl rfl rfl hS ?_;all_goals simp only[go_sem]
   exact ho
  |false=>
   have hun:=jT hb;have pt:=Qh f ls ax x hl UG nJ hp (by omega);have Xt:=qq (d:=x) nJ hp (by omega);have T5:=sT sn x true;have TQ: ∀ n:Nat,n<=5000001->n*8<=140737488355328:=fun n hn=>by omega
   have hta:List.take ax.length (nP ax)=nP ax:=aau (by simp);rcases ho with ⟨rfl,h7⟩|⟨ab0,g,h7,hC⟩
   ·simp only[go_sem,i36_l1,h1,hB,h4,hA,h5,hS,h7,h8,hx,Wn,T5,hta,s64,aS pt,ac];refine ih (ce ls ax x) (sn.set x true) [x] _ _ ?_ ?_ ?_ ?_ ?_ ?_ ?_ ?_ (by simpa [hsl] using Xt) (by simpa using hsl) (by omega) (by simp;omega) ?_
    ·simp only[go_sem,h1]
    ·simp only[go_sem,hB]
    ·simp only[go_sem,h4]
    ·simp only[go_sem,hA]
    ·simp only[go_sem,h5,aaD]
    ·simp only[go_sem]
    ·simp only[go_sem];exact .inr ⟨by simp,_,rfl,rfl⟩
    ·simp only[go_sem]
    ·intro Tg Td q1 q3 q4 q5 q6 b1 b2 b3 b4 b5 b6;refine hq Tg Td ?_ ?_ ?_ ?_ ?_ ?_ ?_ ?_ ?_ b5 ?_
     ·rw[q1];simp only[go_sem]
     ·rw[q3];simp only[go_sem]
     ·rw[q4];simp only[go_sem]
     ·rw[q5];simp only[go_sem]
     ·rw[q6];simp only[go_sem]
     ·rw[b1];simp only[go_sem]
     ·rw[b2];simp only[go_sem]
     ·rw[b3];simp only[go_sem]
     ·rw[b4];simp only[go_sem]
     ·simpa using b6
   ·have htw:List.take w.length (nP w)=nP w:=aau (by simp);have T8:=TQ (w.length+1) (by omega);simp only[go_sem,i36_l1,h1,hB,h4,hA,h5,hS,h7,h8,hx,Wn,T5,hta,s64,aS pt,hC,htw,T8,ac];refine ih (ce ls ax x) (sn.set x true) (w++[x]) _ _ ?_ ?_ ?_ ?_ ?_ ?_ ?_ ?_ (by simpa [hsl] using Xt) (by simpa using hsl) (by omega) (by simp;omega) ?_
    ·simp only[go_sem,h1]
    ·simp only[go_sem,hB]
    ·simp only[go_sem,h4]
    ·simp only[go_sem,hA]
    ·simp only[go_sem,h5,aaD]
    ·simp only[go_sem]
    ·simp only[go_sem];exact .inr ⟨by simp,g+1,by simp,by simp[af]⟩
    ·simp only[go_sem]
    ·intro Tg Td q1 q3 q4 q5 q6 b1 b2 b3 b4 b5 b6;refine hq Tg Td ?_ ?_ ?_ ?_ ?_ ?_ ?_ ?_ ?_ b5 ?_
     ·rw[q1];simp only[go_sem]
     ·rw[q3];simp only[go_sem]
     ·rw[q4];simp only[go_sem]
     ·rw[q5];simp only[go_sem]
     ·rw[q6];simp only[go_sem]
     ·rw[b1];simp only[go_sem]
     ·rw[b2];simp only[go_sem]
     ·rw[b3];simp only[go_sem]
     ·rw[b4];simp only[go_sem]
     ·simpa using b6
def outW(site:Nat)(o:List (List Nat))(v:V)(Tc:aB):Prop:=(o=[]/\v= .one (.p .nils))\/(o≠[]/\ ∃ g,v= .one (.hsl site g 1 0 o.length)/\Tc site=(g,some (.arr 64 1 (o.map fun w=>[jl w]))))
theorem F1(f:Int)(ls:List ae)(hl:ls.length<=1000000)(TA:ah ls≠[])(hp: ∀ v l,ls[v]? =some l->(l.kind==2)=false->v∈ah ls):
  aH S 36 [aQ f ls] (.one (.own 64 1 ((bt (ce ls (ah ls)) (2*ls.length+2*(ah ls).length)).map fun w=>[jl w]))):=by
 have pa:=Mh f ls hl;have nJ: ∀ x∈ah ls,x<ls.length:=fun x h=>rM h
 have UG:(ah ls).length<=ls.length:=cn ls ls.length;unfold wU at pa;rw[if_neg TA] at pa;generalize ah ls=ax at TA hp pa nJ UG;have m1:=bX (a:=ls.length) (by omega);have m2:=bX (a:=ax.length) (by omega);have m3:=wrap_add (a:=2*ls.length) (b:=2*ax.length) (by omega);have VG:(nP ax).length=ax.length:=by simp
 have TQ:2*ls.length+2*ax.length<=140737488355328:=by omega
 have YB:List.replicate (2*ls.length+2*ax.length) [PV.bool false]=bP (List.replicate (2*ls.length+2*ax.length) false):=by simp
 refine aG c36 ?_;have afM: ∀ (Tc:aB),land Tc [] 2304128064 ((RV.one (.own 3 1 (nP ax))).bK (S.lone 2304128064))=some (.one (.hsl 2304128064 ((Tc 2304128064).1+1) 1 0 ax.length),[(2304128064,((Tc 2304128064).1+1,some (.arr 3 1 (nP ax))))]):=by
  intro Tc;have Uy:S.lone 2304128064=false:=by kernel_rfl
  rw[Uy];simp only[RV.bK,land,true_or,if_true,lm,eJ,dA,iC,ik,lz,ff,aak,abO]
 simp only[go_sem,i36,s63,ai pa (afM _),m1,m2,m3,TQ,YB];generalize hN:2*ls.length+2*ax.length=N at TQ;refine be (fun k env Tc=>env 1= .one (.Tn 2304000000 1 0)/\Tc 2304000000=(1,some (.var (ie f ls)))/\env 4= .one (.hsl 2304128064 1 1 0 ax.length)/\Tc 2304128064=(1,some (.arr 3 1 (nP ax)))/\
   env 5= .one (.hsl 2304192512 1 1 0 N)/\Tc 2304192512=(1,some (.arr 4 1 (bP (aL (ce ls ax) N k).2)))/\env 6=vi k/\outW 2304896192 (aL (ce ls ax) N k).1 (env 3) Tc) 0 N (aah _) ?_ ?_
 ·simp only[go_sem];exact⟨rfl,rfl, .inl ⟨rfl,rfl⟩⟩
 ·rintro k env Tc hk ⟨h1,hB,h4,hA,h5,hS,h6,ho⟩
  have hlen:=gH (ce ls ax) N k;have Vu:=gY (ce ls ax) N k;by_cases Ti:k<N
  ·have Tk:((k:Int)<(N:Int)):=by omega
   have w1:=am (n:=k) (by omega);have hs:=de (ce ls ax) N k;generalize TE:aL (ce ls ax) N k=st at hlen hs ho hS Vu;obtain⟨out,sn⟩:=st;simp only at hlen ho hS Vu;obtain⟨b,hb⟩:=ao (ls:=sn) (k:=k) (by omega);have Wn:=ig hb;unfold d9 at hs;have hgd:sn.getD k true=b:=by rw[aap,hb];rfl
   simp only[hgd] at hs;cases b with
   |true=>
    have hs:aL (ce ls ax) N (k+1)=(out,sn):=hs;simp only[go_sem,i36_l4,i36_r3,h1,hB,h4,hA,h5,hS,h6,Ti,Tk,Wn,w1,hs];exact ho
   |false=>
    have hs:aL (ce ls ax) N (k+1)=(out++[(bQ (ce ls ax) (N+1) k sn).1],(bQ (ce ls ax) (N+1) k sn).2):=by rw[hs,hlen];rfl
    have hul:=jN sn;simp only[go_sem,i36_l4,h5,hS,h6,Ti,Tk,Wn];refine Qg (f:=f) hl (by omega) nJ hp (N+1) k sn [] _ _ ?_ ?_ ?_ ?_ ?_ ?_ ?_ ?_ (by omega) (by omega) (by omega) (by simp;omega) ?_
    ·simp only[go_sem,h1]
    ·simp only[go_sem,hB]
    ·simp only[go_sem,h4]
    ·simp only[go_sem,hA]
    ·simp only[go_sem,h5,hlen]
    ·simp only[go_sem,hS]
    ·exact .inl ⟨rfl,by simp only[go_sem]⟩
    ·simp only[go_sem]
    ·intro Tg Td q1 q3 q4 q5 q6 b1 b2 b3 b4 b5 b6;simp only[go_sem,h1,h4,h5,h6] at q1 q3 q4 q5 q6;simp only[go_sem,hB,hA] at b1 b2 b3 b4;have ab0:(bQ (ce ls ax) (N+1) k sn).1≠[]:=by
      unfold bQ;rw[hgd];simp
     rw[abK] at b6;rcases b6 with ⟨e,_⟩|⟨_,g,h7,hC⟩
     ·exact(ab0 e).elim
     ·generalize bQ (ce ls ax) (N+1) k sn=wf at hs ab0 b5 h7 hC;obtain⟨w,Us⟩:=wf;simp only at hs ab0 b5 h7 hC;have htw:List.take w.length (nP w)=nP w:=aau (by simp);rcases ho with ⟨rfl,h3⟩|⟨ho,go,h3,hO⟩
      ·rw[h3] at q3;simp only[go_sem,i36_r2,i36_r3,q1,q3,q4,q5,q6,b1,b2,b5,h7,hC,htw,w1,hs,Ti,sD,ac];exact .inr ⟨by simp,_,rfl,by simp[af]⟩
      ·rw[h3] at q3;have hto:List.take out.length (out.map fun w=>[jl w])=out.map fun w=>[jl w]:=aau (by simp)
       have T8:(out.length+1)*24<=140737488355328:=by omega
       simp only[go_sem,i36_r2,i36_r3,q1,q3,q4,q5,q6,b1,b2,b3,b5,h7,hC,hO,htw,hto,T8,w1,hs,Ti,sD,aat,ac];exact .inr ⟨by simp,go+1,by simp,by simp[af]⟩
  ·have:k=N:=by omega
   subst this;have he:bt (ce ls ax) k=(aL (ce ls ax) k k).1:=rfl;rw[<- he] at ho;rcases ho with ⟨e,h3⟩|⟨ho,g,h3,hC⟩
   ·exact(Hm (ce ls ax) k k (by have:=abn.2 TA;omega) (by have:=abn.2 TA;omega) e).elim
   ·simp only[go_sem,i36_l4,i36_r5,h3,h5,h6,aN];exact lC hC (by simp)
end Go.Abs
