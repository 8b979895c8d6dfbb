/-
  What the words of line do.
-/
import Derived.Test.YtniibcmpbldbcaaGreatDoorUa
import Derived.Test.YtniibcmpbldbcaaGreatDoorNa
set_option linter.all false
set_option maxRecDepth 100000
set_option maxHeartbeats 16000000
namespace Go.Abs
section
variable{off:Nat}
def sm (w:Let->Int)(l:List Pc):Int:=(l.map fun p=>w p.l).sum
section
variable {F:Nat} {ls:List Let}
end
def wgT(l:Let):Int:=if l.aw&&l.over then l.sign else 0
section
variable {F:Nat} {ls:List Let}
def kQ(k sg dp dc dt:Int):Prop:=if k=2 then dp=2/\dc=0/\dt=0 else if k=1 then dp= -2/\dc=0/\dt=0 else if k=5 then dp=0/\dc=2/\dt=sg else if k=4 then dp=0/\dc= -2/\(dt=1\/dt= -1) else if k=7 then dp=0/\dc=4/\dt=0 else if k=6 then dp=0/\dc= -4/\dt=0 else dp=0/\dc=0/\dt=0
end
theorem apU{f:Int}{ls:List Let}{n:Int}(hn:n<=1000000):aH S 4 [fP f ls,vi n] (rb (decide ((ls.length:Int)<=n)&&(iD f ls==0))):=by
 by_cases h:(ls.length:Int)<=n
 .have pc:=ahx f ls aa;have hd:decide ((ls.length:Int)<=n)=true:=decide_eq_true h;rw[hd];generalize iD f ls=e at*;refine ba c4 ?_;simp only[go_sem,i4,h,s12,dV pc];all_goals(first|done|exact aD|exact⟨aD,rfl⟩|rfl)
 have hd:decide ((ls.length:Int)<=n)=false:=decide_eq_false h;rw[hd];refine ba c4 ?_;simp only[go_sem,i4,h];all_goals(first|done|exact aD|exact⟨aD,rfl⟩|rfl)
def wr (ls:List Let):Int:=(ls.map wgT).sum
section
variable {F:Nat} {ls:List Let}
theorem P9(ms:List dx):((mP ms).all fun e=>e.all PV.scalar)=true:=by rw[iC];intro e he;obtain⟨m,_,rfl⟩:=dr.1 he;rfl
theorem afK(g:ct F ls):∃ms,(ms.length<=2000000000/\ ∀m∈ms,EP F ls m)/\aH S 39 [fP F ls,.one (.p (.sl (nP (kinds 10))))] (.tup [.one (bK iI 7 (mP ms)),.one (.p (.int .i64 0))]):=by obtain⟨ms,cs,pL,ps⟩:=ap5 g (iR.2 g.ne);refine⟨ms,pL,?_⟩;have po:=ac3 g;have lo:S.lone 2496256128=false:=ah;refine ba c39 ?_;simp only[go_sem,i39,s18,dB po iz,s64];refine aax ps lo fun c d bc gc gd hb=>?_;simp only[go_sem];exact jB gc
theorem Wy{f:Int}{ms:List dx}(pr:aH S 39 [fP f ls,.one (.p (.sl (nP (kinds 10))))] (.tup [.one (bK iI 7 (mP ms)),.one (.p (.int .i64 0))])):aH S 17 [fP f ls] (.tup [.one (bK iI 7 (mP ms)),.one (.p (.int .i64 0))]):=by
 have lo:S.lone 1088384128=false:=ah;refine ba c17 ?_;simp only[go_sem,i17];refine cQ (fun k aj blk=>aj 1=.one (.bt 1088000000 1 0)/\blk 1088000000=(1,some (.var (uB f ls)))/\aj 5=vi ((k+1:Nat):Int)/\outK k (aj 4) blk) 0 10 (aY _) ?_ ?_
 .simp only[go_sem];exact⟨rfl,.inl ⟨rfl,rfl⟩⟩
 rintro k aj blk hk ⟨h1,hB,h5,ho⟩
 by_cases aq:k<10
 .have aJ:((k+1:Nat):Int)<=10:=aa;have w1:=bG (n:=k+1) aa;have cM:=alR k;rcases ho with ⟨rfl,h4⟩|⟨aK,g,h4,hC⟩
  .simp only[go_sem,i17_l1,h1,hB,h4,h5,aq,aJ,w1,fj,fM];exact .inr ⟨af,_,rfl,rfl⟩
  have Ga:(nP (kinds k)).length=k:=by simp[kinds]
  have ht:List.take k (nP (kinds k))=nP (kinds k):=fY aa;have hr:(k+1)*8<=140737488355328:=aa;have dM:(kinds k).length=k:=by simp[kinds]
  simp only[go_sem,i17_l1,h1,hB,h4,h5,aq,aJ,w1,hC,ht,hr,dM,fj,fM];exact .inr ⟨af,g+1,af,by simp only[aS,if_true];rw[cM]⟩
 have:k=10:=aa;subst this;have aJ:¬((10+1:Nat):Int)<=10:=ae;rcases ho with ⟨h0,_⟩|⟨_,g,h4,hC⟩
 .cases h0
 have ht:List.take 10 (nP (kinds 10))=nP (kinds 10):=fY (by simp[kinds]);have Ga:10<=(List.range 10).length:=af;simp only[go_sem,i17_l1,i17_r2,h1,hB,h4,h5,aJ,hC,ht,s39];refine FU pr lo (P9 _) rfl fun c bc gc hb=>?_;simp only[go_sem];exact jB gc
def ms0(F:Nat):List dx:=(List.range (F+1)).map fun i=>⟨2,0,(i:Nat),0,false,false,0⟩
theorem amP(F:Nat):mP (ms0 F)=uM (F+1):=by rw[mP,ms0,qH];rfl
theorem afx(hF:F<=40):aH S 17 [fP F []] (.tup [.one (bK iI 7 (mP (ms0 F))),.one (.p (.int .i64 0))]):=Wy (by rw[amP];exact afJ hF)
theorem afy(g:ct F ls):∃ms,(ms.length<=2000000000/\ ∀m∈ms,EP F ls m)/\aH S 17 [fP F ls] (.tup [.one (bK iI 7 (mP ms)),.one (.p (.int .i64 0))]):=by obtain⟨ms,h,p⟩:=afK g;exact⟨ms,h,Wy p⟩
def EY(m:dx)(is:Bool):RV:=.tup [.agg (m.ps.map .p),.one (.p (.bool is))]
theorem adh{f:Int}{ms:List dx}(pL:ms.length<=2000000000)(hl:ls.length<=24)(pr:aH S 17 [fP f ls] (.tup [.one (bK iI 7 (mP ms)),.one (.p (.int .i64 0))]))(n:Int):
  ∃m is,(is=true->m∈ms)/\aH S 6 [fP f ls,vi n] (EY m is):=by
 have lo:S.lone 384064064=false:=ah;have z0:(((0:Nat):Int)==0)=true:=rfl;have akq:¬((ls.length:Int)>30):=aa;by_cases Ur:ms=[]
 .refine⟨⟨0,0,0,0,false,false,0⟩,false,fun h=>(by cases h),?_⟩;unfold EY;refine ba c6 ?_;simp only[go_sem,i6,s17];refine FU pr lo (P9 _) rfl fun c bc gc hb=>?_;have b1:=hb 384000000 ae;have b2:=hb 384000064 ae;simp only[go_sem] at b1 b2;subst Ur;rcases gc with ⟨e,e2⟩|⟨aK,_⟩
  .cases e2;simp only[go_sem,b2,z0];rfl
  exact absurd rfl aK
 have aK:(mP ms)≠[]:=fun e=>Ur (List.map_eq_nil_iff.1 e);have kJ:(mP ms).length=ms.length:=sC ms;have ff:0<ms.length:=iR.2 Ur;have pI:((ms.length:Int)==0)=false:=beq_eq_false_iff_ne.2 aa;by_cases abg:n<0
 .refine⟨⟨0,0,0,0,false,false,0⟩,false,fun h=>(by cases h),?_⟩;unfold EY;refine ba c6 ?_;simp only[go_sem,i6,s17];refine FU pr lo (P9 _) rfl fun c bc gc hb=>?_;have b1:=hb 384000000 ae;have b2:=hb 384000064 ae;simp only[go_sem] at b1 b2;rcases gc with ⟨e,_⟩|⟨_,gg,e2,mH⟩
  .exact absurd e aK
  cases e2;rw[kJ];simp only[go_sem,b2,pI,abg];rfl
 have Gc:n.toNat%ms.length<ms.length:=dw _ ff;obtain⟨m,hm⟩:=aI Gc;have gh:=MQ hm;have UE:n.tmod (ms.length:Int)=((n.toNat%ms.length:Nat):Int):=by obtain⟨k,rfl⟩:=oL (show 0<=n by omega);rw[Int.tmod_eq_emod_of_nonneg aa,lJ];rfl
 have aky:¬((ms.length:Int)=0):=aa;refine⟨m,true,fun _=>aQ hm,?_⟩;unfold EY;refine ba c6 ?_;simp only[go_sem,i6,s17];refine FU pr lo (P9 _) rfl fun c bc gc hb=>?_;have b1:=hb 384000000 ae;have b2:=hb 384000064 ae;simp only[go_sem] at b1 b2;rcases gc with ⟨e,_⟩|⟨_,gg,e2,mH⟩
 .exact absurd e aK
 cases e2;rw[kJ];simp only[go_sem,b1,b2,mH,pI,abg,akq,aky,UE,Gc,gh,dx.ps];rfl
end
abbrev ay(w:List Int):PV:=.sl (iP w)
structure B6 (w:List Int):Prop where
 even:w.length%2=0
 len:w.length<=400
 gate:∀g∈w,0<=g/\g<=40
theorem arT{g:Int}(h:0<=g/\g<=40):aH S 86 [vi g] (rb false):=by have h1:¬g<0:=aa;have h2:¬g>40:=aa;refine ba c86 ?_;simp only[go_sem,i86,h1,h2]
theorem alo(o:List Int)(hl:o.length<=1000000){f:Nat}(eC:S.shared f=false)(hd:∀v∈o,aH S f [vi v] (rb false)):
  aH S 124 [.one (.p (ay o)),.one (.p (.fn f [] []))] (ri (-1)):=by
 refine ba c124 ?_;simp only[go_sem,i124];refine cQ (fun k aj blk=>aj 0=.one (.p (ay o))/\aj 1=.one (.p (.fn f [] []))/\aj 7=vi o.length/\aj 8=vi k) 0 o.length (aY _) ?_ ?_
 .simp only[go_sem];rfl
 rintro k aj blk hk ⟨h0,h1,h7,h8⟩
 by_cases aq:k<o.length
 .have aJ:((k:Int)<(o.length:Int)):=aa;obtain⟨v,hv⟩:=aI aq;have ez:=oj hv;have w1:=bG (n:=k) aa;have pd:=hd v (aQ hv);simp only[go_sem,i124_l1,h0,h1,h7,h8,aq,aJ,ez,eC,cH pd,w1]
 have:k=o.length:=aa;subst this;simp only[go_sem,i124_l1,i124_r2,h7,h8,dZ]
theorem ahR(o:List Int)(hl:o.length<=1000000){f:Nat}(eC:S.shared f=false)(hd:∀v∈o,aH S f [vi v] (rb false)):
  aH S 85 [.one (.p (ay o)),.one (.p (.fn f [] []))] (rb false):=by
 have pi:=alo o hl eC hd;refine ba c85 ?_;have mI:¬(0:Int)<= -1:=ae;simp only[go_sem,i85,s124,dV pi,mI]
theorem afr{w:List Int}(h:B6 w):aH S 50 [.one (.p (ay w))] (rb true):=by
 have pc:=ahR w (by have:=h.len;omega) s86 fun v hv=>arT (h.gate v hv);have h1:((w.length:Int).tmod 2)=0:=by rw[Int.tmod_eq_emod_of_nonneg aa];have:=h.even;omega
 have h2:(w.length:Int)<=400:=by have:=h.len;omega
 have h0:((0:Int)==0)=true:=rfl;have mF:¬((2:Int)=0):=ae;refine ba c50 ?_;simp only[go_sem,i50,h1,h2,h0,mF,s85,cH pc]
theorem arX{ws:List (List Int)}{k:Nat}{w:List Int}(h:ws[k]?=some w):(ws.map fun w=>[ay w])[k]?=some [ay w]:=by simp[h]
theorem ahy(ws:List (List Int))(hl:ws.length<=1000)(h:∀w∈ws,B6 w):aH S 23 [.one (.p (.sl (ws.map fun w=>[ay w])))] (ri 0):=by
 refine ba c23 ?_;simp only[go_sem,i23];refine cQ (fun k aj blk=>aj 5=.one (.p (.sl (ws.map fun w=>[ay w])))/\aj 6=vi ws.length/\aj 7=vi k) 0 ws.length (aY _) ?_ ?_
 .simp only[go_sem];rfl
 rintro k aj blk hk ⟨h5,h6,h7⟩
 by_cases aq:k<ws.length
 .have aJ:((k:Int)<(ws.length:Int)):=aa;obtain⟨w,hw⟩:=aI aq;have ez:=arX hw;have w1:=bG (n:=k) aa;have hg:=h w (aQ hw);have h2:¬(w.length:Int)>400:=by have:=hg.len;omega
  have pw:=afr hg;simp only[go_sem,i23_l1,h5,h6,h7,aq,aJ,ez,h2,s50,cH pw,w1]
 have:k=ws.length:=aa;subst this;simp only[go_sem,i23_l1,i23_r2,h6,h7,dZ]
theorem ajg{k:Int}(h:0<=k/\k<=40):aH S 120 [vi k] (rb true):=by have h1:k≥0:=h.1;have h2:k<=40:=h.2;refine ba c120 ?_;simp only[go_sem,i120,h1,h2]
theorem amJ{w:List Int}(aK:w≠[])(hl:w.length<=1000000){b:Int}(h:∀g∈w,g<=b):∃r,(∃m,m<=b/\r=ri m)/\aH S 121 [.one (.p (ay w))] r:=by
 have ff:=iR.2 aK;have h1:¬(w.length:Int)<1:=aa;obtain⟨x,hx⟩:=aI ff;have ko:=oj hx;refine Bw rfl c121 (hU rfl) ?_;simp only[go_sem,i121,h1,ko];refine cQ (fun k aj blk=>aj 0=.one (.p (ay w))/\aj 4=vi k/\ ∃m,m<=b/\aj 3=vi m) 1 w.length ff ?_ ?_
 .simp only[go_sem];exact⟨rfl,x,h x (aQ hx),rfl⟩
 rintro k aj blk hk ⟨h0,h4,m,hm,h3⟩
 by_cases aq:k<w.length
 .have aJ:((k:Int)<(w.length:Int)):=aa;obtain⟨y,hy⟩:=aI aq;have ez:=oj hy;have w1:=bG (n:=k) aa;have hyb:=h y (aQ hy);simp only[go_sem,i121_l1,h0,h3,h4,aq,aJ,ez,w1];exact⟨_,by split<;>assumption,rfl⟩
 have:k=w.length:=aa;subst this;simp only[go_sem,i121_l1,i121_r2,h0,h3,h4,dZ];exact⟨_,⟨m,hm,rfl⟩,rfl⟩
theorem aru{k:Int}(hk:0<=k/\k<=40){w:List Int}(h:B6 w)(hg:∀g∈w,g<=k):aH S 79 [vi k,.one (.p (ay w))] (rb true):=by
 have pf:=ajg hk;have pw:=afr h;have hl:=h.len;by_cases aK:w=[]
 .have hz:((w.length:Int)==0)=true:=by rw[aK];rfl
  refine ba c79 ?_;simp only[go_sem,i79,s120,cH pf,s50,cH pw,hz]
 obtain⟨r,⟨m,hm,rfl⟩,pm⟩:=amJ aK aa hg;have hz:((w.length:Int)==0)=false:=beq_eq_false_iff_ne.2 (by have:=iR.2 aK;omega);refine ba c79 ?_;simp only[go_sem,i79,s120,cH pf,s50,cH pw,hz,s121,dV pm,hm]
theorem ahv{k:Int}(hk:0<=k/\k<=40){w:List Int}(h:B6 w)(hg:∀g∈w,g<=k):aH S 47 [vi k,.one (.p (ay w))] (ri 0):=by
 have pv:=aru hk h hg;have h2:¬(w.length:Int)>400:=by have:=h.len;omega
 refine ba c47 ?_;simp only[go_sem,i47,h2,s79,cH pv]
abbrev Ie:Nat:=132
abbrev rh:Nat:=3
def v8(x:DL):List PV:=[.int .i64 x.1,.bool x.2]
abbrev ng(s:List DL):List (List PV):=s.map v8
theorem dlP_len(s:List DL):(ng s).length=s.length:=af
def zV(site off:Nat)(s:List DL)(c:C)(blk:aB):Prop:=c=.p .nils/\s=[]\/ ∃g es,c=.hsl site g 2 off s.length/\blk site=(g,some (.arr Ie 2 es))/\(es.drop off).take s.length=ng s/\off+s.length<=es.length
theorem zV.of_eq{site:Nat}{s:List DL}{c:C}{blk ak:aB}(h:zV site off s c blk)(e:ak site=blk site):zV site off s c ak:=by
 rcases h with h|⟨g,es,h1,h2,h3,h4⟩
 .exact .inl h
 exact .inr ⟨g,es,h1,e.trans h2,h3,h4⟩
theorem Nd{s:List DL}{es:List (List PV)}{k:Nat}{x:DL}(h3:(es.drop off).take s.length=ng s)(h:s[k]?=some x):es[off+k]?=some (v8 x):=by
 have h1:(ng s)[k]?=some (v8 x):=by rw[fX,h];rfl
 rw[<- h3,jm] at h1;split at h1
 .rw[ur] at h1;exact h1
 cases h1
theorem VS{s:List DL}{es:List (List PV)}(h3:(es.drop off).take s.length=ng s)(n k:Nat)(hk:n+k<=s.length):(es.drop (off+n)).take k=ng ((s.drop n).take k):=by
 have:((es.drop off).take s.length).drop n=ng (s.drop n):=by rw[h3];exact(Dk ..).symm
 rw[List.drop_take,List.drop_drop] at this;rw[show ng ((s.drop n).take k)=(ng (s.drop n)).take k from Ad ..,<- this,List.take_take,yK aa]
theorem alY{s:List DL}(h:s≠[]):∃x,s[s.length-1]?=some x/\s.getLast?=some x:=by refine⟨s.getLast h,?_,List.getLast?_eq_some_getLast h⟩;rw[oQ (by have:=iR.2 h;omega)];rw[List.getLast_eq_getElem]
theorem tdl(k:Nat):((k:Int).tmod 2)=((k%2:Nat):Int):=by rw[Int.tmod_eq_emod_of_nonneg aa];omega
theorem adt(k:Nat):iQ true k=(((k%2:Nat):Int)==0):=by
 unfold iQ;by_cases h:k%2=0
 .rw[if_pos h,h];rfl
 rw[if_neg h];have:((k%2:Nat):Int)≠0:=aa;rw[beq_eq_false_iff_ne.2 this];rfl
theorem aib{Q:ef}{aj:Env}{blk:aB}{os all:List ch}{tr:List bX}{d:Option Nat}{site ty z bytes id g off len:Nat}{es xs:List (List PV)}{x:V}{rd:List Nat}(hC:blk id=(g,some (.arr ty z es)))(hx:eT blk x=some (xs,rd,[]))(hz:lI x=some z\/fM z xs=true)(hr:(len+xs.length)*bytes<=140737488355328)
  (ho:0<off) (hl:0<len) (aK:0<xs.length) (hfit:off+len<=es.length)
  (hK:RD S .all all os Q (put aj d (.one (.p (.sl ((es.drop off).take len++xs))))) (cZ blk id (g,none)) (tr++[⟨id::rd,[id],[]⟩])):dP S .all (fj blk site ty z bytes (.one (.hsl id g z off len)) x) d all os Q aj blk tr:=by
 obtain⟨o,rfl⟩:∃o,off=o+1:=⟨off-1,aa⟩;have my:¬¬(lI x=some z\/fM z xs=true):=fun h=>h hz;have hc:g=g/\ty=ty/\z=z/\o+1+len<=es.length/\(len+xs.length)*bytes<=room/\([]:List Nat).contains id=false/\0<len/\0<xs.length:=⟨rfl,rfl,rfl,hfit,hr,rfl,hl,aK⟩;have:fj blk site ty z bytes (.one (.hsl id g z (o+1) len)) x=.done (.one (.p (.sl ((es.drop (o+1)).take len++xs)))) ([]++[(id,(g,none))]) (id::rd++[]):=by simp only[fj,hx,if_neg my,qN,rV,hC];rw[if_pos ⟨trivial,trivial,trivial,hfit,hr,rfl,hl,aK⟩]
 rw[this];simp only[gZ,oN];rw[HZ];exact hK
theorem aar{Q:ef}{aj:Env}{blk:aB}{os:List ch}{d:Option Nat}{site:Nat}{s:List DL}{y:DL}{c:C}{x:V}{rd:List Nat}(hs:zV site 0 s c blk)(hx:eT blk x=some ([v8 y],rd,[]))(hz:lI x=some 2\/fM 2 [v8 y]=true)(hl:s.length<=1000000)
  (hK:∀(c':C) ak,zV site 0 (s++[y]) c' ak->(∀i,i≠site->ak i=blk i)->RN S .all os Q (put aj d (.one c')) ak):gP S .all (fj blk site Ie 2 16 (.one c) x) d os Q aj blk:=by
 have my:¬¬(lI x=some 2\/fM 2 [v8 y]=true):=fun h=>h hz;rcases hs with ⟨rfl,rfl⟩|⟨g,es,rfl,hb,h3,h4⟩
 .have:fj blk site Ie 2 16 (.one (.p .nils)) x=.done (.one (.hsl site ((blk site).1+1) 2 0 1)) ([]++[(site,((blk site).1+1,some (.arr Ie 2 [v8 y])))]) (site::rd++[]):=by
   simp only[fj,hx,if_neg my,qN,rV];rfl
  rw[this,FT];refine hK _ _ (.inr ⟨(blk site).1+1,[v8 y],rfl,rz,rfl,aZ _⟩) fun i hi=>aN hi
 have:fj blk site Ie 2 16 (.one (.hsl site g 2 0 s.length)) x=.done (.one (.hsl site ((blk site).1+1) 2 0 (s.length+1))) ([]++[(site,(g,none)),(site,((blk site).1+1,some (.arr Ie 2 (es.take s.length++[v8 y]))))]) (site::site::rd++[]):=by simp only[fj,hx,if_neg my,qN,rV,hb];rw[if_pos ⟨trivial,trivial,trivial,aa,by simp only[cE,dQ,room];omega,rfl⟩];rfl
 rw[this,FT];have qo:es.take s.length=ng s:=h3;refine hK _ _ (.inr ⟨(blk site).1+1,ng s++[v8 y],by rw[fc];rfl,?_,?_,af⟩) fun i hi=>?_
 .rw[qo];exact rz
 .show(ng s++[v8 y]).take (s++[y]).length=ng (s++[y]);rw[fY af];simp
 exact(aN hi).trans (aN hi)
theorem V8(l:List DL):(ru l).length<=l.length:=by
 suffices h:∀(l s:List DL),(l.foldl uc s).length<=s.length+l.length by
  have:=h l []
  simpa [ru] using this
 intro l
 induction l with
 |nil=>intro s;simp
 |cons x l ih=>
  intro s;have h1:=ih (uc s x);have h2:(uc s x).length<=s.length+1:=by
   unfold uc;split
   .rw[vL];omega
   simp
  rw[uW,cE];omega
theorem ara:∀(n m:Nat) (s:List DL),s.length<=n->s.length<=m->nU n s=nU m s:=by
 intro n
 induction n with
 |zero=>intro m s h _;obtain rfl:=Hg.1 (Nat.le_zero.1 h);cases m<;>rfl
 |succ n ih=>
  intro m s h1 h2;cases s with
  |nil=>cases m<;>rfl
  |cons x t=>
   cases m with
   |zero=>simp at h2
   |succ m=>simp only[cE] at h1 h2;show(if (t.getLast?.map fun y=>y.1)=some x.1 then nU n t.dropLast else x::t)=(if (t.getLast?.map fun y=>y.1)=some x.1 then nU m t.dropLast else x::t);rw[ih m t.dropLast (by rw[vL];omega) (by rw[vL];omega)]
abbrev VL(r:List DL):V->aB->Prop:=fun v blk=>kx blk v=some (.one (bK rh 1 (iP (r.map (·.1)))))
theorem VM{s:List DL}{c:C}{DG:Env}{jQ:aB}(hl:s.length<=400)(jf:(∃off,zV 3264512448 off s c jQ)\/c=.p (.sl (ng s)))(e3:DG 83=.one c)(e4:DG 84=vi s.length)(e5:DG 85=vi (0:Nat))(e7:DG 7=.one (.p .nils)):
  W S .all (.loop i51_l3) (rG 4 (Bj S .all i51_r4 (qL .all [(2,none)] (VL s)))) DG jQ:=by
 refine cQ (fun k aj blk=>aj 83=.one c/\aj 84=vi s.length/\aj 85=vi k/\((∃off,zV 3264512448 off s c blk)\/c=.p (.sl (ng s)))/\ ∃d,aj 7=.one d/\grown 3265152256 rh 1 (iP ((s.take k).map (·.1))) (.one d) blk) 0 s.length (aY _) ?_ ?_
 .exact⟨e3,e4,e5,jf,.p .nils,e7,grown.nil⟩
 rintro k aj blk hk ⟨h83,Lr,Ls,hs,d,h7,gd⟩
 by_cases aq:k<s.length
 .have aJ:((k:Int)<(s.length:Int)):=aa;obtain⟨x,hx⟩:=aI aq;have w1:=bG (n:=k) aa;have oi:(s.take (k+1)).map (·.1)=(s.take k).map (·.1)++[x.1]:=by rw[kW,hx];simp
  have dM:(iP ((s.take k).map (·.1))).length=k:=by simp;omega
  have ko:(ng s)[k]?=some [.int .i64 x.1,.bool x.2]:=by rw[fX,hx];rfl
  have AP:=hs;rcases hs with ⟨off,⟨_,e⟩|⟨gg,es,rfl,hb,h5,h6⟩⟩|rfl
  .subst e;simp at aq
  .have gh:es[off+k]?=some [.int .i64 x.1,.bool x.2]:=Nd h5 hx;simp only[go_sem,i51_l3,h83,Lr,Ls,h7,hb,aq,aJ,gh];refine qk (site:=3265152256) (id:=3265152256) (xs:=[[.int .i64 x.1]]) (rd:=[3265152192]) (gd.of_eq (by simp only[aS,Nat.reduceEqDiff,if_false])) (by simp[eT,aS]) (.inl rfl) (by rw[dM];simp;omega) fun d' bc Lf aR=>?_;have aU:=aR 3264512448 ae ae;simp only[aS,Nat.reduceEqDiff,if_false] at aU;simp only[go_sem,h83,Lr,Ls,w1];refine⟨aq,⟨off,.inr ⟨gg,es,rfl,aU.trans hb,h5,h6⟩⟩,d',rfl,?_⟩;rw[oi]
   simpa using Lf
  simp only[go_sem,i51_l3,h83,Lr,Ls,h7,aJ,ko];refine qk (site:=3265152256) (id:=3265152256) (xs:=[[.int .i64 x.1]]) (rd:=[3265152192]) (gd.of_eq (by simp only[aS,Nat.reduceEqDiff,if_false])) (by simp[eT,aS]) (.inl rfl) (by rw[dM];simp;omega) fun d' bc Lf aR=>?_;simp only[go_sem,h83,Lr,Ls,w1];refine⟨aq,d',rfl,?_⟩;rw[oi]
  simpa using Lf
 have:k=s.length:=aa;subst this;rw[jo] at gd;simp only[go_sem,i51_l3,i51_r4,Lr,Ls,h7,dZ];exact sQ gd
theorem adI{s:List DL}{c:C}{aj:Env}{blk:aB}(hl:s.length<=400)(he:s.length%2=0)(h3:aj 3=.one c)(hs:zV 3264512448 off s c blk):W S .all i51_r5 (qL .all [(2,none)] (VL (GM s))) aj blk:=by
 cases s with
 |nil=>
  have z0:¬(((0:Nat):Int)>0):=ae;have AP:=hs;rcases hs with ⟨rfl,_⟩|⟨gg,es,rfl,hb,h5,h6⟩
  all_goals
   simp only[dQ] at*;simp only[go_sem,i51_r5,h3,z0];refine VM (s:=[]) (aY _) (.inl ⟨off,AP⟩) ?_ ?_ ?_ ?_;all_goals(simp only[go_sem];first|done|rfl)
 |cons x t=>
  rcases hs with ⟨_,e⟩|⟨gg,es,rfl,hb,h5,h6⟩
  .cases e
  rw[cE] at hl he h6;have I5:1<=t.length:=aa;have Lv:es[off]?=some [.int .i64 x.1,.bool x.2]:=Nd h5 (k:=0) rfl;have iU:(((t.length+1:Nat)):Int)>0:=aa;have AN:0<t.length+1:=aa;cases hd:x.2 with
  |true=>
   have hr:GM (x::t)=x::t:=by show(if x.2 then _ else _)=_;rw[hd];rfl
   rw[hr];simp only[go_sem,i51_r5,h3,hb,iU,AN,Lv,hd,rA];refine VM (s:=x::t) (by rw[cE];exact hl) (.inl ⟨off,.inr ⟨gg,es,rfl,hb,h5,by rw[cE];exact h6⟩⟩) ?_ ?_ ?_ ?_;all_goals(simp only[go_sem];first|done|rfl)
  |false=>
   have hr:GM (x::t)=t++[x]:=by show(if x.2 then _ else _)=_;rw[hd];rfl
   rw[hr];simp only[go_sem,i51_r5,h3,hb,iU,AN,Lv,hd,rA];have Mw:=VS h5 1 t.length (by rw[cE];omega);have hv:(es.drop (off+1)).take (t.length+1-1)++[[PV.int .i64 x.1,PV.bool false]]=ng (t++[x]):=by rw[Hl,Mw];show ng (t.take t.length)++_=_;rw[jo,show ng (t++[x])=ng t++ng [x] from iS ..];show ng t++_=ng t++[[PV.int .i64 x.1,PV.bool x.2]];rw[hd]
   refine aib (off:=off+1) (rd:=[3264832320]) ((aN ae).trans hb) (xs:=[[.int .i64 x.1,.bool false]]) (by simp[eT,aS]) (.inl rfl) (by simp only[cE,dQ];omega) aa aa (Nat.lt_succ_self 0) aa ?_;rw[hv];simp only[go_sem,h3];refine⟨aD,VM (s:=t++[x]) (by simp;omega) (.inr rfl) ?_ ?_ ?_ ?_⟩;all_goals(simp only[go_sem];first|done|rfl)
theorem aoy{s0:List DL}{c0:C}{DG:Env}{jQ:aB}(hl:s0.length<=400)(he:s0.length%2=0)(Iz:DG 3=.one c0)(jf:zV 3264512448 0 s0 c0 jQ):W S .all i51_r6 (qL .all [(2,none)] (VL (GM (nU s0.length s0)))) DG jQ:=by
 simp only[go_sem,i51_r6];refine cQ (fun k aj blk=>∃s c,aj 3=.one c/\zV 3264512448 k s c blk/\s.length+2*k=s0.length/\nU s.length s=nU s0.length s0) 0 s0.length (aY _) ?_ ?_
 .exact⟨s0,c0,Iz,jf,rfl,rfl⟩
 rintro k aj blk hk ⟨s,c,h3,hs,hsl,vq⟩
 cases s with
 |nil=>
  have z0:¬(((0:Nat):Int)>1):=ae;have ht:nU s0.length s0=[]:=vq.symm;have fin:=fun aj blk h=>adI (s:=[]) (c:=c) (aj:=aj) (blk:=blk) (off:=k) (aY _) rfl h;have AP:=hs;rcases hs with ⟨rfl,_⟩|⟨gg,es,rfl,hb,h5,h6⟩
  all_goals
   simp only[dQ] at*;simp only[go_sem,i51_l2,h3,z0];refine⟨aD,?_⟩;rw[ht];exact fin _ _ (by simp only[go_sem,h3]) AP
 |cons x t=>
  rcases hs with ⟨_,e⟩|⟨gg,es,rfl,hb,h5,h6⟩
  .cases e
  have I5:t≠[]:=fun e=>by subst e;simp at hsl;omega
  have vn:=iR.2 I5;obtain⟨y,hy1,hy2⟩:=alY I5;rw[cE] at hsl h6;have ys:(x::t)[t.length]?=some y:=by rw[List.getElem?_cons,if_neg aa];exact hy1
  have Lv:es[k]?=some [.int .i64 x.1,.bool x.2]:=Nd h5 (k:=0) rfl;have aaR:es[k+t.length]?=some [.int .i64 y.1,.bool y.2]:=Nd h5 ys;have iU:(((t.length+1:Nat)):Int)>1:=aa;have hw:IntKind.i64.wrap (((t.length+1:Nat):Int)-1)=((t.length:Nat):Int):=by have:=wrap_small (n:=t.length) aa;rw[<- this];congr 1;omega
  have AN:0<t.length+1:=aa;have Ej:t.length<t.length+1:=aa;have h1l:1<=t.length:=vn;have hle:t.length<=t.length+1:=aa;by_cases e:x.1=y.1
  .have e':(x.1==y.1)=true:=beq_iff_eq.2 e;have Ef:k<s0.length:=aa;have aU:nU t.dropLast.length t.dropLast=nU s0.length s0:=by
    rw[<- vq];show _=(if (t.getLast?.map fun y=>y.1)=some x.1 then nU t.length t.dropLast else x::t);rw[hy2,kX,e,if_pos rfl];exact ara _ _ _ (aZ _) (by rw[vL];omega)
   simp only[go_sem,i51_l2,h3,hb,iU,hw,AN,Ej,Lv,aaR,e',h1l,hle,rA];refine⟨aD,Ef,t.dropLast,_,rfl,.inr ⟨gg,es,by rw[vL],hb,?_,by rw[vL];omega⟩,by rw[vL];omega,aU⟩;have:=VS h5 1 (t.length-1) (by rw[cE];omega);rw[vL,List.dropLast_eq_take];exact this
  have e':(x.1==y.1)=false:=beq_eq_false_iff_ne.2 e;have aU:nU s0.length s0=x::t:=by rw[<- vq];show(if (t.getLast?.map fun y=>y.1)=some x.1 then nU t.length t.dropLast else x::t)=_;rw[hy2,kX,if_neg (fun h=>e (rB h).symm)]
  simp only[go_sem,i51_l2,h3,hb,iU,hw,AN,Ej,Lv,aaR,e',rA];refine⟨aD,?_⟩;rw[aU];exact adI (s:=x::t) (off:=k) (by rw[cE];omega) (by rw[cE];omega) (by simp only[go_sem,h3]) (.inr ⟨gg,es,rfl,hb,h5,h6⟩)
section
variable {w:List Int}
theorem aoz(hw:w.length<=400)(he:w.length%2=0):aH S 51 [.one (.p (ay w))] (.one (bK rh 1 (iP ((rn w).map (·.1))))):=by
 refine ba c51 ?_;simp only[go_sem,i51];refine cQ (fun k aj blk=>aj 10=.one (.p (ay w))/\aj 11=vi w.length/\aj 12=vi k/\ ∃c,aj 3=.one c/\zV 3264512448 0 (ru ((cV true w).take k)) c blk) 0 w.length (aY _) ?_ ?_
 .simp only[go_sem];exact⟨rfl,.p .nils,rfl,.inl ⟨rfl,rfl⟩⟩
 rintro k aj blk hk ⟨dm,eF,iH,c,h3,hs⟩
 by_cases aq:k<w.length
 .have aJ:((k:Int)<(w.length:Int)):=aa;obtain⟨g,hg⟩:=aI aq;have zw:=oj hg;have w1:=bG (n:=k) aa;have mF:¬((2:Int)=0):=ae;have cA:ru ((cV true w).take (k+1))=uc (ru ((cV true w).take k)) (g,iQ true k):=by
   rw[kW,aga hg];exact aeH _ _
  have hsl:(ru ((cV true w).take k)).length<=k:=mU (V8 _) (by rw[fJ];omega);generalize ru ((cV true w).take k)=s at cA hs hsl;rcases List.eq_nil_or_concat s with rfl|⟨s0,y,jf⟩
  .have hp:uc [] (g,iQ true k)=[]++[(g,iQ true k)]:=rfl;have z0:¬(((0:Nat):Int)>0):=ae;have AP:=hs;rcases hs with ⟨rfl,_⟩|⟨gg,es,rfl,hb,h5,h6⟩
   all_goals
    simp only[dQ] at*;simp only[go_sem,i51_l1,h3,dm,eF,iH,aJ,zw,z0,mF,tdl];refine aar (s:=[]) (y:=(g,iQ true k)) (rd:=[3264512384]) (AP.of_eq (aN ae)) (by simp[eT,aS,v8,adt]) (.inl rfl) (aY _) fun c' bc fL aR=>?_;simp only[go_sem,dm,eF,iH,w1];refine⟨aq,c',rfl,?_⟩;rw[cA,hp];exact fL
  rw[List.concat_eq_append] at jf;have aK:s≠[]:=by rw[jf];simp
  have ff:=iR.2 aK;have gI:s[s.length-1]?=some y:=by rw[jf];simp
  have l7:s.getLast?=some y:=by rw[jf];simp
  have AP:=hs;rcases hs with ⟨_,e⟩|⟨gg,es,rfl,hb,h5,h6⟩
  .exact absurd e aK
  have iU:((s.length:Nat):Int)>0:=aa;have hw:IntKind.i64.wrap ((s.length:Int)-1)=((s.length-1:Nat):Int):=by have:=wrap_small (n:=s.length-1) aa;rw[<- this];congr 1;omega
  have Ej:s.length-1<s.length:=aa;have hle:s.length-1<=s.length:=aa;have gh:es[s.length-1]?=some [.int .i64 y.1,.bool y.2]:=by have:=Nd h5 gI;rw[jc] at this;exact this
  by_cases e:y.1=g
  .have e':(y.1==g)=true:=beq_iff_eq.2 e;have hp:uc s (g,iQ true k)=s.dropLast:=by
    unfold uc;rw[l7,kX,e,if_pos rfl]
   simp only[go_sem,i51_l1,h3,dm,eF,iH,hb,aq,aJ,zw,iU,hw,Ej,gh,e',hle,w1];refine⟨_,rfl,?_⟩;rw[cA,hp];refine .inr ⟨gg,es,by rw[vL],hb,?_,by rw[vL];omega⟩;have:=VS h5 0 (s.length-1) aa;rw[vL,List.dropLast_eq_take];exact this
  have e':(y.1==g)=false:=beq_eq_false_iff_ne.2 e;have hp:uc s (g,iQ true k)=s++[(g,iQ true k)]:=by unfold uc;rw[l7,kX,if_neg (fun h=>e (rB h))]
  simp only[go_sem,i51_l1,h3,dm,eF,iH,hb,aJ,zw,iU,hw,Ej,gh,e',mF,tdl];refine aar (s:=s) (y:=(g,iQ true k)) (rd:=[3264512384]) (AP.of_eq (aN ae)) (by simp[eT,aS,v8,adt]) (.inl rfl) aa fun c' bc fL aR=>?_;simp only[go_sem,dm,eF,iH,w1];refine⟨aq,c',rfl,?_⟩;rw[cA,hp];exact fL
 have:k=w.length:=aa;subst this;rw[fY (by rw[vT];exact aZ _)] at hs;have hl:=V8 (cV true w);rw[vT] at hl;obtain⟨gs,g1,_,g3⟩:=aeO _ w rfl;have dD:(ru (cV true w)).length%2=0:=by rw[g1,vT];omega
 simp only[go_sem,i51_l1,eF,iH,dZ];exact aoy aa dD (by simp only[go_sem,h3]) hs
end
theorem adL{w:List Int}{a k:Nat}(ha:a<=w.length)(hk:k<w.length):(gi w a)[k]?=w[(a+k)%w.length]? :=by
 unfold gi;by_cases h1:k<w.length-a
 .rw[oO (by rw[nW];exact h1),ur,fK aa]
 rw[nV (by rw[nW];omega),nW,jm,if_pos aa];congr 1;rw[show a+k=w.length+(k-(w.length-a)) by omega,Nat.add_mod_left,fK aa]
theorem X1{A B:List Int}{i:Nat}{x y:Int}(h1:A[i]?=some x)(h2:B[i]?=some y):ib (A.drop i) (B.drop i)=if x=y then ib (A.drop (i+1)) (B.drop (i+1)) else x-y:=by obtain⟨a1,rfl⟩:=aV.1 h1;obtain⟨a2,rfl⟩:=aV.1 h2;rw[yI a1,yI a2];rfl
theorem arW{x y:Int}(hx:0<=x/\x<=40)(hy:0<=y/\y<=40):IntKind.i64.wrap (x-y)=x-y:=by simp only[IntKind.wrap,IntKind.bits,IntKind.signed];simp;omega
theorem szI(o:List Int):fM 1 (iP o)=true:=by simp[fM]
section
variable {w:List Int}
theorem al9(aK:w≠[])(hl:w.length<=400)(hg:∀g∈w,0<=g/\g<=40){a b:Nat}(ha:a<=w.length)(hb:b<=w.length):aH S 87 [vi (a:Nat),vi (b:Nat),.one (.p (.box [.int .i64 w.length])),.one (.p (.box [ay w]))] (ri (ib (gi w a) (gi w b))):=by
 have ff:=iR.2 aK;have hz:¬((w.length:Int)=0):=aa;refine ba c87 ?_;simp only[go_sem,i87];refine cQ (fun k aj blk=>aj 0=vi (a:Nat)/\aj 1=vi (b:Nat)/\aj 2=.one (.p (.box [.int .i64 w.length]))/\aj 3=.one (.p (.box [ay w]))/\aj 10=vi w.length/\aj 11=vi k/\ib (gi w a) (gi w b)=ib ((gi w a).drop k) ((gi w b).drop k)) 0 w.length (aY _) ?_ ?_
 .simp only[go_sem];rfl
 rintro k aj blk hk ⟨h0,h1,h2,h3,dm,eF,hc⟩
 by_cases aq:k<w.length
 .have aJ:((k:Int)<(w.length:Int)):=aa;have w1:=bG (n:=k) aa;have wa:=wrap_add (a:=a) (b:=k) aa;have wb:=wrap_add (a:=b) (b:=k) aa;have ta:=uj (a+k) w.length;have tb:=uj (b+k) w.length;have ma:=dw (a+k) ff;have mb:=dw (b+k) ff;obtain⟨x,hx⟩:=aI ma;obtain⟨y,hy⟩:=aI mb;have ko:=oj hx;have hyp:=oj hy;have wP:=hg x (aQ hx);have vf:=hg y (aQ hy);have hd:=X1 ((adL ha aq).trans hx) ((adL hb aq).trans hy);have wd:=arW wP vf;by_cases e:x=y
  .have e':(x !=y)=false:=by simp[e]
   rw[if_pos e] at hd;simp only[go_sem,i87_l1,h0,h1,h2,h3,dm,eF,aq,aJ,wa,wb,hz,ta,tb,ko,hyp,e',w1];exact⟨aD,hc.trans hd⟩
  have e':(x !=y)=true:=by simpa using e
  rw[if_neg e] at hd;have hr:=hc.trans hd;simp only[go_sem,i87_l1,h0,h1,h2,h3,dm,eF,aJ,wa,wb,hz,ta,tb,ko,hyp,e',wd,hr];exact aD
 have:k=w.length:=aa;subst this;have hr:ib (gi w a) (gi w b)=0:=by rw[hc,List.drop_of_length_le (by rw[yC];exact aZ _)];rfl
 simp only[go_sem,i87_l1,i87_r2,dm,eF,dZ,hr]
theorem amr(w:List Int){j:Nat}(h:¬2*(j+1)<w.length):∀d,jY w (j+d)=jY w j:=by
 intro d
 induction d with
 |zero=>rfl
 |succ d ih=>show jY w (j+d+1)=_;rw[jY,if_neg (fun hh=>h aa),ih]
theorem abY(aK:w≠[])(hl:w.length<=400)(hg:∀g∈w,0<=g/\g<=40):aH S 52 [.one (.p (ay w))] (.one (bK rh 1 (iP (ji w)))):=by
 have ff:=iR.2 aK;refine ba c52 ?_;simp only[go_sem,i52];refine cQ (fun j aj blk=>aj 1=.one (.bt 3328000000 1 0)/\aj 3=.one (.bt 3328064128 1 0)/\aj 5=.one (.hfn 87 [] [.bt 3328064128 1 0,.bt 3328000000 1 0])/\blk 3328000000=(1,some (.var [.p (ay w)]))/\blk 3328064128=(1,some (.var [.p (.int .i64 w.length)]))/\aj 4=vi (jY w j)/\aj 6=vi ((2*(j+1):Nat):Int)) 0 (w.length/2) (aY _) ?_ ?_
 .simp only[go_sem];exact⟨rfl,rfl⟩
 rintro j aj blk hj ⟨h1,h3,h5,b0,b1,h4,h6⟩
 obtain⟨f1,f2⟩:=ab4 w j;have qu:jY w j<=w.length:=aa;by_cases aq:2*(j+1)<w.length
 .have aJ:(((2*(j+1):Nat):Int)<(w.length:Int)):=aa;have pc:=al9 aK hl hg (a:=2*(j+1)) (b:=jY w j) aa qu;have w2:IntKind.i64.wrap (((2*(j+1):Nat):Int)+2)=((2*(j+1+1):Nat):Int):=by
   have:=wrap_small (n:=2*(j+1+1)) aa;rw[<- this];congr 1
  have cA:jY w (j+1)=if ib (gi w (2*(j+1))) (gi w (jY w j))<0 then 2*(j+1) else jY w j:=by
   rw[jY];by_cases h:ib (gi w (2*(j+1))) (gi w (jY w j))<0
   .rw[if_pos ⟨aq,h⟩,if_pos h]
   rw[if_neg (fun hh=>h hh.2),if_neg h]
  by_cases h:ib (gi w (2*(j+1))) (gi w (jY w j))<0
  .rw[if_pos h] at cA;simp only[go_sem,i52_l1,h1,h3,h4,h5,h6,b0,b1,aJ,s87,dV pc,h,w2,cA];omega
  rw[if_neg h] at cA;simp only[go_sem,i52_l1,h1,h3,h4,h5,h6,b0,b1,aJ,s87,dV pc,h,w2,cA];omega
 have aJ:¬(((2*(j+1):Nat):Int)<(w.length:Int)):=aa;have he:ji w=gi w (jY w j):=by unfold ji;obtain⟨d,hd⟩:∃d,w.length/2=j+d:=⟨w.length/2-j,aa⟩;rw[hd,amr w aq]
 rw[he];have yl:fM 1 (iP w)=true:=szI w;have hnf:¬¬jY w j<=w.length:=fun h=>h qu;have DY:jY w j<w.length:=aa;generalize jY w j=f at*;have e1:(iP w).drop f=iP (w.drop f):=(Dk ..).symm;have e2:((iP w).drop f).take (w.length-f)=iP (w.drop f):=by rw[e1,fY af]
 have e3:((iP w).drop 0).take (f-0)=iP (w.take f):=by rw[Nat.sub_zero,List.drop_zero];exact(Ad ..).symm
 have h0f:¬¬0<=f:=fun h=>h (aY _);simp only[go_sem,i52_l1,i52_r2,h1,h3,h4,h6,b0,b1,aJ,hnf,yl,e2];refine y9 (site:=3328576192) (id:=3328576192) (z:=1) (ty:=rh) (bytes:=8) (xs:=iP (w.drop f)) (rd:=[]) grown.nil rfl (.inr (szI _)) (by simp;omega) fun c' bc r1 u1 gc aR dI=>?_;have b0':=(aR 3328000000 ae ae).trans b0;have h0f':¬¬(0:Nat)<=f:=fun h=>h (aY _);simp only[go_sem,h1,h4,b0',qu,yl];have e4:(iP w).take f=iP (w.take f):=(Ad ..).symm;rw[e4];refine y9 (site:=3328576448) (id:=3328576192) (z:=1) (ty:=rh) (bytes:=8) (xs:=iP (w.take f)) (rd:=[]) gc rfl (.inr (szI _)) (by simp;omega) fun c2 aT r2 u2 oc aU nH=>?_;simp only[go_sem];refine⟨?_,?_⟩
 .rcases dI with ⟨rfl,rfl⟩|⟨rfl,rfl⟩|⟨rfl,rfl⟩<;>rcases nH with ⟨rfl,rfl⟩|⟨rfl,rfl⟩|⟨rfl,rfl⟩<;>kernel_rfl
 have e5:iP (gi w f)=[]++iP (w.drop f)++iP (w.take f):=by rw[gZ];exact iS ..
 rw[e5];exact sQ oc
end
theorem ahE{w:List Int}(aK:w≠[])(hl:w.length<=1000000):aH S 88 [.one (.p (ay w))] (.one (bK rh 1 (iP w))):=by
 have hs:=szI w;have hr:(0+(iP w).length)*8<=room:=by unfold room;rw[cF];omega
 obtain⟨e0,es,hq⟩:∃e0 es,iP w=e0::es:=by
  cases w with
  |nil=>exact absurd rfl aK
  |cons g t=>exact⟨_,_,rfl⟩
 unfold ay;rw[hq] at hs hr ⊢;refine ba c88 ?_;have aK:e0::es≠[]:=af;have wO:bK rh 1 (e0::es)=.own rh 1 (e0::es):=if_neg aK;rw[wO];unfold room at hr;simp only[jc,cE] at hr;simp only[fM,uT] at hs;simp only[go_sem,i88,fj,fM];simp only[hs,hr,not_true_eq_false,if_true,if_false];simp only[go_sem];exact MY rz rfl
theorem amX(w:List Int):∀e∈iP w,e.length=1/\ ∀v∈e,v.norm=v:=by intro e he;obtain⟨g,_,rfl⟩:=dr.1 he;exact⟨rfl,fun v hv=>by rw[j6.1 hv];rfl⟩
theorem CV(w:List Int):((iP w).all fun e=>e.all PV.scalar)=true:=by rw[iC];intro e he;obtain⟨m,_,rfl⟩:=dr.1 he;rfl
theorem aoH{w:List Int}(aK:w≠[])(hl:w.length<=1000000):aH S 53 [.one (.p (ay w))] (.one (bK rh 1 (iP w.reverse))):=by have pc:=ahE aK hl;have lo:S.lone 3392064064=false:=ah;refine ba c53 ?_;simp only[go_sem,i53,s88];refine jH pc lo (.inl rfl) fun c bc gc hb=>?_;simp only[go_sem,s89];refine B4 (f:=89) (es:=iP w) (ty:=rh) (z:=1) (fun o h=>adK o (by simpa using hl) (amX w) h) gc fun aT oc aU=>?_;simp only[go_sem];have e:iP w.reverse=(iP w).reverse:=List.map_reverse ..;rw[e];exact sQ oc
def yD(z:Int):Int:=if z<0 then -1 else if z=0 then 0 else 1
theorem acB(x:Int):aH S 125 [vi x] (rb false):=by have h:(x !=x)=false:=af;refine ba c125 ?_;simp only[go_sem,i125,h]
theorem ahG(x y:Int):aH S 90 [vi x,vi y] (ri (yD (x-y))):=by
 have p1:=acB x;have p2:=acB y;unfold yD;refine ba c90 ?_;by_cases h1:x<y
 .have jI:x-y<0:=aa;simp only[go_sem,i90,s125,cH p1,cH p2,h1,jI]
 have jI:¬x-y<0:=aa;by_cases h2:x>y
 .have ij:¬x-y=0:=aa;simp only[go_sem,i90,s125,cH p1,cH p2,h1,jI,h2,ij]
 have ij:x-y=0:=aa;simp only[go_sem,i90,s125,cH p1,cH p2,h1,h2,ij]
theorem ahP{a b:List Int}(he:a.length=b.length)(hl:a.length<=1000000):aH S 54 [.one (.p (ay a)),.one (.p (ay b))] (ri (yD (ib a b))):=by
 refine ba c54 ?_;simp only[go_sem,i54];refine cQ (fun k aj blk=>aj 0=.one (.p (ay a))/\aj 1=.one (.p (ay b))/\aj 9=.one (.p (ay a))/\aj 10=vi a.length/\aj 11=vi k/\ib a b=ib (a.drop k) (b.drop k)) 0 a.length (aY _) ?_ ?_
 .simp only[go_sem];rfl
 rintro k aj blk hk ⟨h0,h1,h9,dm,eF,hc⟩
 by_cases aq:k<a.length
 .have aJ:((k:Int)<(a.length:Int)):=aa;have akv:k<b.length:=aa;have mI:¬(k:Int)≥(b.length:Int):=aa;have w1:=bG (n:=k) aa;obtain⟨x,hx⟩:=aI aq;obtain⟨y,hy⟩:=aI akv;have ko:=oj hx;have hyp:=oj hy;have hd:=X1 hx hy;have pc:=ahG x y;by_cases e:x=y
  .rw[if_pos e] at hd;have e0:yD (x-y)=0:=by rw[e,Int.sub_self];rfl
   rw[e0] at pc;have z0:((0:Int)!=0)=false:=rfl;simp only[go_sem,i54_l1,h0,h1,h9,dm,eF,aq,aJ,mI,ko,hyp,s90,dV pc,z0,w1];exact hc.trans hd
  rw[if_neg e] at hd;have hr:ib a b=x-y:=hc.trans hd;have z0:(yD (x-y)!=0)=true:=by
   have:yD (x-y)≠0:=by
    unfold yD;split
    .decide
    rw[if_neg aa];decide
   simpa using this
  simp only[go_sem,i54_l1,h1,h9,dm,eF,aJ,mI,ko,hyp,s90,dV pc,z0,hr]
 have:k=a.length:=aa;subst this;have hr:ib a b=0:=by rw[hc,List.drop_length];rfl
 have mI:¬(a.length:Int)<(b.length:Int):=aa;have s0:yD 0=0:=rfl;simp only[go_sem,i54_l1,i54_r2,h0,h1,dm,eF,dZ,mI,hr,s0]
theorem aiM{a:List Int}(hl:a.length<=1000000):aH S 24 [.one (.p (ay a)),.one (.p (ay a))] (rb true):=by
 have hn:((a.length:Int)!=(a.length:Int))=false:=af;refine ba c24 ?_;simp only[go_sem,i24,hn];refine cQ (fun k aj blk=>aj 0=.one (.p (ay a))/\aj 1=.one (.p (ay a))/\aj 12=vi a.length/\aj 13=vi k) 0 a.length (aY _) ?_ ?_
 .simp only[go_sem];rfl
 rintro k aj blk hk ⟨h0,h1,iH,sR⟩
 by_cases aq:k<a.length
 .have aJ:((k:Int)<(a.length:Int)):=aa;have w1:=bG (n:=k) aa;obtain⟨x,hx⟩:=aI aq;have ko:=oj hx;have hxx:(x !=x)=false:=af;simp only[go_sem,i24_l1,h0,h1,iH,sR,aq,aJ,ko,hxx,w1];exact aD
 have:k=a.length:=aa;subst this;simp only[go_sem,i24_l1,i24_r2,iH,sR,dZ]
theorem aqA(l:List DL):∀x∈ru l,x∈l:=by
 suffices h:∀(l s:List DL),∀x∈l.foldl uc s,x∈s\/x∈l by
  intro x hx;rcases h l [] x hx with h|h
  .cases h
  exact h
 intro l
 induction l with
 |nil=>intro s x hx;exact .inl hx
 |cons y l ih=>
  intro s x hx;rcases ih _ x hx with h|h
  .unfold uc at h;split at h
   .exact .inl ((List.dropLast_sublist _).subset h)
   rcases fq.1 h with h|h
   .exact .inl h
   exact .inr (by rw[j6.1 h];exact Bs ..)
  exact .inr (vN _ h)
theorem aq8:∀(n:Nat) (s:List DL),(nU n s).length<=s.length/\ ∀x∈nU n s,x∈s:=by
 intro n
 induction n with
 |zero=>intro s;exact⟨aZ _,fun x h=>h⟩
 |succ n ih=>
  intro s;cases s with
  |nil=>exact⟨aZ _,fun x h=>h⟩
  |cons y t=>
   show(if (t.getLast?.map fun y=>y.1)=some y.1 then nU n t.dropLast else y::t).length<=_/\ ∀x∈(if (t.getLast?.map fun y=>y.1)=some y.1 then nU n t.dropLast else y::t),_;split
   .obtain⟨h1,h2⟩:=ih t.dropLast;rw[vL] at h1;exact⟨by rw[cE];omega,fun x hx=>vN _ ((List.dropLast_sublist _).subset (h2 x hx))⟩
   exact⟨aZ _,fun x h=>h⟩
theorem aoJ(s:List DL):(GM s).length=s.length/\ ∀x∈GM s,x∈s:=by
 cases s with
 |nil=>exact⟨rfl,fun x h=>h⟩
 |cons y t=>
  show(if y.2 then y::t else t++[y]).length=_/\ ∀x∈(if y.2 then y::t else t++[y]),_;split
  .exact⟨rfl,fun x h=>h⟩
  refine⟨af,fun x hx=>?_⟩;rcases fq.1 hx with h|h
  .exact vN _ h
  rw[j6.1 h];exact Bs ..
theorem adF(w:List Int):((rn w).map (·.1)).length<=w.length/\ ∀g∈(rn w).map (·.1),g∈w:=by unfold rn;obtain⟨h1,h2⟩:=aoJ (nU (ru (cV true w)).length (ru (cV true w)));obtain⟨h3,h4⟩:=aq8 (ru (cV true w)).length (ru (cV true w));have h5:=V8 (cV true w);rw[vT] at h5;refine⟨by rw[cF];omega,fun g hg=>?_⟩;obtain⟨x,hx,rfl⟩:=dr.1 hg;have:=aqA _ x (h4 x (h2 x hx));rw[<- Fw true w];exact dr.2 ⟨x,this,rfl⟩
section
variable {w:List Int}
theorem ab6(h:B6 w):aH S 25 [.one (.p (ay w))] (.one (bK rh 1 (iP (xh w)))):=by
 have pr:=aoz h.len h.even;obtain⟨m1,m2⟩:=adF w;have pP:S.lone 1600064064=false:=ah;have sB:S.lone 1600256064=false:=ah;have lo3:S.lone 1600256192=false:=ah;have lo4:S.lone 1600256256=false:=ah;have hn:xh w=if (rn w).map (·.1)=[] then [] else if ib (ji ((rn w).map (·.1)).reverse) (ji ((rn w).map (·.1)))<0 then ji ((rn w).map (·.1)).reverse else ji ((rn w).map (·.1)):=rfl;rw[hn];generalize (rn w).map (·.1)=r at*;have hrl:r.length<=400:=mU m1 h.len;have hrg:∀g∈r,0<=g/\g<=40:=fun g hg=>h.gate g (m2 g hg);refine ba c25 ?_;simp only[go_sem,i25,s51];refine jH pr pP (.inl rfl) fun c bc gc hb=>?_;rcases gc with ⟨e,e2⟩|⟨aK,gg,e2,mH⟩
 .have hr:r=[]:=List.map_eq_nil_iff.1 e;subst hr;cases e2;have z0:(((0:Nat):Int)==0)=true:=rfl;simp only[go_sem,z0];rfl
 cases e2;have aK:r≠[]:=fun e=>aK (by rw[e];rfl);have hz:((r.length:Int)==0)=false:=beq_eq_false_iff_ne.2 (by have:=iR.2 aK;omega);have hlr:(iP r).length=r.length:=af;have vq:(iP r).take r.length=iP r:=fY af;have htv:(iP r.reverse).take r.length=iP r.reverse:=fY af;have abh:r.reverse≠[]:=by simpa using aK
 rw[if_neg aK];have pa:=abY aK hrl hrg;have pv:=aoH aK aa;have pb:=abY abh (by simpa using hrl) (fun g hg=>hrg g (List.mem_reverse.1 hg));have pc:=ahP (a:=ji r.reverse) (b:=ji r) (by unfold ji;rw[yC,yC,xy]) (by unfold ji;rw[yC,xy];omega);have yk:iP r.reverse≠[]:=fun e=>abh (List.map_eq_nil_iff.1 e);simp only[go_sem,hlr,mH,hz,vq,s52];refine jH pa sB (.inr (fh (CV _))) fun ca aT ga aU=>?_;have b2:=(aU 1600064064 ae).trans mH;simp only[go_sem,b2,hlr,vq,s53];refine jH pv lo3 (.inr (fh (CV _))) fun cv jz gv kG=>?_;rcases gv with ⟨e,_⟩|⟨_,gg3,e3,hbv⟩
 .exact absurd e yk
 cases e3;have l8:(iP r.reverse).length=r.length:=af;have ga3:=ga.of_eq (kG _ ae);simp only[go_sem,hbv,l8,htv,s52];refine jH pb lo4 (.inr (fh (CV _))) fun cb qf gb kh=>?_;have ga4:=ga3.of_eq (kh _ ae);obtain⟨ra,hsa,uL⟩:=ga4.dO;obtain⟨rb,hsb,mL⟩:=gb.dO;by_cases hc:ib (ji r.reverse) (ji r)<0
 .rw[if_pos hc];have hs:yD (ib (ji r.reverse) (ji r))<0:=by unfold yD;rw[if_pos hc];decide
  simp only[go_sem,hsa,hsb,s54,dV pc,hs];exact sQ gb
 rw[if_neg hc];have hs:¬yD (ib (ji r.reverse) (ji r))<0:=by unfold yD;rw[if_neg hc];split<;>decide
 simp only[go_sem,hsa,hsb,s54,dV pc,hs];exact sQ ga4
theorem amY(w:List Int):(xh w).length<=w.length:=by
 obtain⟨m1,_⟩:=adF w;show(if (rn w).map (·.1)=[] then [] else if ib (ji ((rn w).map (·.1)).reverse) (ji ((rn w).map (·.1)))<0 then ji ((rn w).map (·.1)).reverse else ji ((rn w).map (·.1))).length<=_;generalize (rn w).map (·.1)=r at*;split
 .exact aY _
 split
 .unfold ji;rw[yC,xy];exact m1
 unfold ji;rw[yC];exact m1
theorem amC{v:List Int}(hv:B6 v)(hw:B6 w)(e:xh v=xh w):aH S 11 [.one (.p (ay v)),.one (.p (ay w))] (uQ (.bool true) (.int .i64 0)):=by
 have pk:=ahy [v,w] af (fun x hx=>by
  rcases cT.1 hx with rfl|hx
  .exact hv
  rw[j6.1 hx];exact hw)
 have pk:aH S 23 [.one (.p (.sl [[ay v],[ay w]]))] (ri 0):=pk;have pv:=ab6 hv;have pw:=ab6 hw;have hl:=amY w;have l7:=hw.len;have pe:=aiM (a:=xh w) aa;rw[e] at pv;have pP:S.lone 704256064=false:=ah;have sB:S.lone 704256192=false:=ah;have z0:((0:Int)!=0)=false:=rfl;refine ba c11 ?_;simp only[go_sem,i11,s23,dV pk,z0,s25];refine jH pv pP (.inl rfl) fun c1 bc g1 aR=>?_;simp only[go_sem,s25];refine jH pw sB (.inl rfl) fun c2 aT g2 aU=>?_;have g12:=g1.of_eq (aU _ ae);obtain⟨r1,fL,dI⟩:=g12.dO;obtain⟨r2,eH,nH⟩:=g2.dO;simp only[go_sem,fL,eH,s24,cH pe];rfl
end
def iZ(ls:List Let):List Int:=(ls.filter Let.ay).map (·.gate)
theorem arU{ls:List Let}{k:Nat}{x:Let}(h:ls[k]?=some x):iZ (ls.take (k+1))=iZ (ls.take k)++(if x.ay then [x.gate] else []):=by unfold iZ;rw[kW,h,ND,iS];cases hp:x.ay<;>simp[List.filter,hp]
theorem aou{f:Int}{ls:List Let}(h:iD f ls=0):∃f' x2 x3 x4 x5 x6,JN f ls=uQ (Ic f' ls x2 x3 x4 x5 x6) (.int .i64 0):=by
 rw[Nc h];by_cases hl:ls=[]
 .subst hl;exact⟨_,_,_,_,_,_,rfl⟩
 rw[if_neg hl];exact⟨_,_,_,_,_,_,rfl⟩
theorem Wt{f:Int}{ls:List Let}(h:iD f ls=0)(hl:ls.length<=1000000):aH S 10 [fP f ls] (.tup [.one (bK rh 1 (iP (iZ ls))),.one (.p (.int .i64 0))]):=by
 have pr:=VI f ls hl;obtain⟨f',x2,x3,x4,x5,x6,e⟩:=aou h;rw[e] at pr;have z0:((0:Int)!=0)=false:=rfl;refine ba c10 ?_;simp only[go_sem,i10,s22,dB pr iz,z0];refine cQ (fun k aj blk=>aj 21=.one (.p (pR ls))/\aj 22=vi ls.length/\aj 23=vi k/\ ∃c,aj 6=.one c/\grown 640576256 rh 1 (iP (iZ (ls.take k))) (.one c) blk) 0 ls.length (aY _) ?_ ?_
 .simp only[go_sem];exact⟨rfl,.p .nils,rfl,grown.nil⟩
 rintro k aj blk hk ⟨qO,lR,l5,c,h6,gc⟩
 by_cases aq:k<ls.length
 .obtain⟨x,cM⟩:=aI aq;have hi:=lf cM;have aJ:((k:Int)<(ls.length:Int)):=aa;have w1:=bG (n:=k) aa;have hs:=arU cM;have wW:(iP (iZ (ls.take k))).length<=k:=by
   unfold iZ;rw[cF,cF];have:=List.length_filter_le Let.ay (ls.take k);rw[fJ] at this;omega
  cases hc:(x.kind==1) with
  |true=>
   have hp:x.ay=true:=hc;rw[hp] at hs;simp only[go_sem,i10_l1,qO,lR,l5,h6,hi,Let.ps,aJ,hc];refine qk (site:=640576256) (id:=640576256) (xs:=[[.int .i64 x.gate]]) (rd:=[640576192]) (gc.of_eq (by simp only[aS,Nat.reduceEqDiff,if_false])) (by simp[eT,aS]) (.inl rfl) (by simp only[cE,dQ];omega) fun d' bc Lf aR=>?_;simp only[go_sem,qO,lR,l5,w1];refine⟨aq,d',rfl,?_⟩;rw[hs]
   simpa using Lf
  |false=>
   have hp:x.ay=false:=hc;rw[hp] at hs;simp only[go_sem,i10_l1,qO,lR,l5,h6,hi,Let.ps,aq,aJ,hc,w1];refine⟨c,rfl,?_⟩;rw[hs]
   simpa using gc.of_eq (by simp only[aS,Nat.reduceEqDiff,if_false])
 have:k=ls.length:=aa;subst this;rw[jo] at gc;simp only[go_sem,i10_l1,i10_r2,lR,l5,h6,dZ];exact jB gc
def lW(w:List Int):Nat->Int->Int
 |0,_=>0
 |n+1,j=>lW w n j+(if w.getD n 0<=j then (if n%2=0 then 1 else -1) else 0)
theorem afl(w:List Int)(j:Int):∀n:Nat,-(n:Int)<=lW w n j/\lW w n j<=n:=by
 intro n
 induction n with
 |zero=>exact⟨Int.le_refl _,Int.le_refl _⟩
 |succ n ih=>
  unfold lW;split
  .split<;>omega
  omega
def lk(k:Nat)(w:List Int):List Int:=(List.range k).map fun j:Nat=>lW w w.length (j:Int)
def qc(k:Nat)(w:List Int)(n m:Nat):List Int:=(List.range k).map fun j:Nat=>if j<m then lW w (n+1) j else lW w n j
theorem QA{k n m:Nat}{w:List Int}{j:Nat}(h:j<k):(qc k w n m)[j]?=some (if j<m then lW w (n+1) j else lW w n j):=by simp[qc,h]
theorem afo{k n m:Nat}{w:List Int}(h:m<k):(qc k w n m).set m (lW w (n+1) m)=qc k w n (m+1):=by
 apply xx;intro i;rw[mT];by_cases hi:i<k
 .rw[QA hi,QA hi];by_cases e:m=i
  .subst e;rw[if_pos rfl,if_pos (by simp[qc];exact h),if_pos aa]
  rw[if_neg e];by_cases h2:i<m
  .rw[if_pos h2,if_pos aa]
  rw[if_neg h2,if_neg aa]
 have e:m≠i:=aa;rw[if_neg e];have:∀m,(qc k w n m)[i]?=none:=fun m=>mS (by simp[qc];omega);rw[this,this]
theorem arO(k:Nat)(w:List Int)(n:Nat)(m:Nat)(hm:∀j,j<m->lW w (n+1) (j:Nat)=lW w n (j:Nat)):qc k w n 0=qc k w n m:=by
 unfold qc;refine uu fun j _=>?_;rw[if_neg (tA j)];split
 .rename_i h;rw[hm j h]
 rfl
theorem arN(k:Nat)(w:List Int)(n:Nat):qc k w n k=qc k w (n+1) 0:=by unfold qc;refine uu fun j hj=>?_;rw[if_pos (fk.1 hj),if_neg (tA j)]
theorem afu{z:Int}(h: -100000<=z/\z<=100000):IntKind.i64.wrap z=z:=by simp only[IntKind.wrap,IntKind.bits,IntKind.signed];simp;omega
theorem ajG{Q:ef}{aj:Env}{blk:aB}{os:List ch}{d:Option Nat}{f:Nat}{vs:List V}{s ty z:Nat}{rd:List Nat}{es:List (List PV)}{x:PV}(hp:aH S f vs (.tup [.one (.own ty z es),.one (.p x)]))(fA:S.lone s=false)(hs:(es.all fun e=>e.all PV.scalar)=true)(hx:x.scalar=true)
  (hK:∀ak g,ak s=(g,some (.arr ty z es))->(∀i,i≠s->ak i=blk i)->RN S .all os Q (put aj d (.tup [.one (.hsl s g z 0 es.length),.one (.p x)])) ak):gP S .all (.pc f vs rd s) d os Q aj blk:=by
 refine(dB (v:=.tup [.one (.hsl s ((blk s).1+1) z 0 es.length),.one (.p x)]) (u:=[(s,((blk s).1+1,some (.arr ty z es)))]) hp ?_).2 (hK _ _ rz fun i hi=>aN hi);rw[fA,zR];have iK:(RV.tup [.one (.own ty z es),.one (.p x)]).alone=true:=by simp only[RV.alone,jS,rU,kD,mq,gZ,oN,uT,yH,Hc,RC.alone,hs,Bool.true_and];exact hx
 unfold land;rw[if_pos (.inr iK)];simp[kN,jS,rU,kD,jW,ue,uO,oE,dN]
theorem arQ{k:Nat}(hk:k<=40){w:List Int}(h:B6 w)(hg:∀g∈w,g<=k):aH S 20 [vi k,.one (.p (ay w))] (.tup [.one (.own rh 1 (iP (lk k w))),.one (.p (.int .i64 0))]):=by
 have pc:=ahv (k:=(k:Int)) aa h hg;have z0:((0:Int)!=0)=false:=rfl;have hlen:=h.len;have F9:(k:Nat)*8<=140737488355328:=aa;have Cx:List.replicate k [PV.int .i64 0]=iP (qc k w 0 0):=by
  apply xx;intro i;by_cases hi:i<k
  .rw[List.getElem?_replicate,if_pos hi,fX,QA hi];rfl
  rw[List.getElem?_replicate,if_neg hi,mS (by simp[qc];omega)]
 refine ba c20 ?_;simp only[go_sem,i20,s47,dV pc,z0,F9,Cx];refine cQ (fun n aj blk=>aj 0=vi k/\aj 21=.one (.p (ay w))/\aj 22=vi w.length/\aj 23=vi n/\aj 7=.one (.bt 1280256064 1 0)/\blk 1280256064=(1,some (.var [.p (.int .i64 1),.p (.int .i64 (-1))]))/\aj 8=.one (.hsl 1280320064 1 1 0 k)/\blk 1280320064=(1,some (.arr rh 1 (iP (qc k w n 0))))) 0 w.length (aY _) ?_ ?_
 .simp only[go_sem];rfl
 rintro n aj blk hn ⟨h0,qO,lR,l5,h7,b7,h8,b8⟩
 by_cases aq:n<w.length
 .have aJ:((n:Int)<(w.length:Int)):=aa;obtain⟨g,hgk⟩:=aI aq;have zw:=oj hgk;have wN:=aQ hgk;have Eb:=h.gate g wN;have Ec:=hg g wN;obtain⟨gn,rfl⟩:=oL Eb.1;have w1:=bG (n:=gn) aa;have wn:=bG (n:=n) aa;have rY:w.getD n 0=(gn:Int):=by rw[cJ,hgk];rfl
  have hz:qc k w n 0=qc k w n gn:=arO k w n gn fun j hj=>by rw[lW,rY,if_neg aa,Int.add_zero]
  rw[hz] at b8;simp only[go_sem,i20_l3,qO,lR,l5,aJ,zw,w1];refine cQ (fun m aj blk=>aj 0=vi k/\aj 21=.one (.p (ay w))/\aj 22=vi w.length/\aj 23=vi n/\aj 9=vi n/\aj 7=.one (.bt 1280256064 1 0)/\blk 1280256064=(1,some (.var [.p (.int .i64 1),.p (.int .i64 (-1))]))/\aj 8=.one (.hsl 1280320064 1 1 0 k)/\aj 11=vi ((m+1:Nat):Int)/\gn<=m/\blk 1280320064=(1,some (.arr rh 1 (iP (qc k w n m))))) gn k aa ?_ ?_
  .simp only[go_sem,h0,qO,lR,l5,h7,h8,b7];first|exact⟨aZ _,b8⟩|exact b8
  clear h0 qO lR l5 h7 b7 h8 b8;rintro m aj blk hm ⟨h0,qO,lR,l5,h9,h7,b7,h8,eF,hgm',b8⟩
  by_cases Cs:m<k
  .have hle:((m+1:Nat):Int)<=(k:Int):=aa;have wm:IntKind.i64.wrap (((m+1:Nat):Int)-1)=((m:Nat):Int):=by
    have:=wrap_small (n:=m) aa;rw[<- this];congr 1;omega
   have wm2:=bG (n:=m+1) aa;have tS:gn<=m+1:=aa;have gh:(iP (qc k w n m))[m]?=some [.int .i64 (lW w n m)]:=by rw[oj (QA Cs),if_neg (Nat.lt_irrefl m)]
   have hb:=afl w (m:Int) n;have mF:¬((2:Int)=0):=ae;have mJ:n%2<2:=dw _ ae;rcases sH n with e|e
   .have hs:lW w (n+1) m=lW w n m+1:=by rw[lW,rY,if_pos aa,if_pos e]
    have ww:IntKind.i64.wrap (lW w n m+1)=lW w (n+1) m:=by rw[hs];exact afu aa
    have hse:=afo (n:=n) (w:=w) Cs;simp only[go_sem,i20_l1,h0,qO,lR,l5,h7,b7,h8,b8,h9,eF,hle,wm,wm2,Cs,gh,mF,tdl,e,ww,MF,hse,tS];exact aD
   have hs:lW w (n+1) m=lW w n m+ -1:=by rw[lW,rY,if_pos aa,if_neg aa]
   have ww:IntKind.i64.wrap (lW w n m+ -1)=lW w (n+1) m:=by rw[hs];exact afu aa
   have hse:=afo (n:=n) (w:=w) Cs;simp only[go_sem,i20_l1,h0,qO,lR,l5,h7,b7,h8,b8,h9,eF,hle,wm,wm2,Cs,gh,mF,tdl,e,ww,MF,hse,tS];exact aD
  have:m=k:=aa;subst this;have hle:¬((m+1:Nat):Int)<=(m:Int):=aa;rw[arN] at b8;simp only[go_sem,i20_l1,i20_r2,h0,qO,lR,l5,h7,b7,h8,b8,eF,hle,wn,aq]
 have:n=w.length:=aa;subst this;have hf:qc k w w.length 0=lk k w:=uu fun j _=>if_neg (tA j);rw[hf] at b8;have hlf:(iP (lk k w)).length=k:=by simp[lk]
 simp only[go_sem,i20_l3,i20_r4,lR,l5,h8,dZ];have ht:(iP (lk k w)).take k=iP (lk k w):=fY (Bu hlf);have dM:k<=(iP (lk k w)).length:=Bu hlf.symm;simp[kx,tL,wA,oa,mN,lG,b8,ht,hlf,apart,vE,CU,ti,rh]
theorem Li{F:Nat}{ls:List Let}(h:iD (F:Int) ls=0):B6 (iZ ls)/\ ∀g∈iZ ls,g<=(F:Int):=by
 by_cases aK:ls=[]
 .subst aK;exact⟨⟨rfl,aY _,fun g hg=>(by cases hg)⟩,fun g hg=>(by cases hg)⟩
 obtain⟨F',e,g⟩:=Z5 h aK;have:F=F':=aa;subst this;have hf:=g.fing;have hl:(iZ ls).length=au Let.ay ls:=by unfold iZ au;rw[cF,NB]
 have hle:au Let.ay ls<=ls.length:=NC;have hg:∀x∈iZ ls,0<=x/\x<=(F:Int):=by intro x hx;obtain⟨l,hl,rfl⟩:=dr.1 hx;obtain⟨h1,h2⟩:=tv.1 hl;have rY:=g.ok.ax.eQ l h1 h2;exact⟨rY.g0,rY.g1⟩
 refine⟨⟨by rw[hl];exact g.even,by have:=g.len;omega,fun x hx=>?_⟩,fun x hx=>(hg x hx).2⟩;have:=hg x hx;omega
theorem afm{k:Nat}{w:List Int}(h:w.length<=400):∀x∈lk k w,-400<=x/\x<=400:=by intro x hx;obtain⟨j,_,rfl⟩:=dr.1 hx;have:=afl w (j:Int) w.length;omega
end
end Go.Abs
