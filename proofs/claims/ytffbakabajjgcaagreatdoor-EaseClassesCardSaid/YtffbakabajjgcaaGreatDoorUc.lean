/- A part. -/
import Derived.Test.YtffbakabajjgcaaGreatDoorUa
import Derived.Test.YtffbakabajjgcaaGreatDoorWw
set_option linter.all false
set_option maxHeartbeats 16000000
namespace Go.Abs
section
variable {F:Nat} {ls:List Let}
end
section
variable {F:Nat} {ls:List Let}
theorem YC(g:bQ F ls){pl:Nat}{edges:List Nat}{e0:Nat}(he0:e0<ls.length)(h:rV F ls pl edges e0=true):∃w,w∈eh (aY ls) (nD ls)/\(gC F ls w).places.length=pl/\((w.filter fun x=>decide (x<2*ls.length)).length=edges.length)/\ ∀e∈edges,∃d,d∈w/\d<2*ls.length/\d/2=e:=by
 have key:∀f∈dh F ls,ve f pl edges=true->∃w,w∈eh (aY ls) (nD ls)/\(gC F ls w).places.length=pl/\((w.filter fun x=>decide (x<2*ls.length)).length=edges.length)/\ ∀e∈edges,∃d,d∈w/\d<2*ls.length/\d/2=e:=by intro f hf hc;obtain⟨w,hw,rfl⟩:=dI.1 hf;unfold ve at hc;simp only[cN,dL,ir] at hc;obtain⟨h1,h2,h3⟩:=hc;rw[Ef] at h1;refine⟨w,hw,h2,h1,fun e he=>?_⟩;have h4:=h3 e he;unfold uB at h4;obtain⟨d,hd,qk⟩:=yJ.1 (show 0<((gC F ls w).bl.countP fun d=>d/2==e) by omega);rw[Ef] at hd;obtain⟨d1,d2⟩:=vS.1 hd;exact⟨d,d1,by simpa using d2,by simpa using qk⟩
 unfold rV at h;rw[sN] at h;rcases h with h|h
 .exact key _ (O8 aa) h
 exact key _ (O8 aa) h
theorem ate{D:List Nat}(h:D.length=2){x y:Nat}(hx:x∈D)(hy:y∈D)(aI:x≠y){z:Nat}(hz:z∈D):z=x\/z=y:=by
 match D,h with
 |[p,q],_=>simp only[cI,iM,or_false] at hx hy hz;omega
theorem Lg{v e:Nat}(hv:v<ls.length)(h:(v+ls.length-1)%ls.length=e):v=nx ls e:=by unfold nx;rw[<- h,vF hv]
end
section
variable {F:Nat} {ls:List Let}
end
theorem asg{α:Type}{z:List α}{a:Nat}{x:α}(h:z[a]?=some x):z=z.take a++x::z.drop (a+1):=by
 obtain⟨hl,e⟩:=bg.1 h;have:z.drop a=x::z.drop (a+1):=by rw[<- e,DE]
 rw[<- this,sQ]
section
variable {F:Nat} {ls:List Let}
end
section
variable {F:Nat} {ls:List Let}
end
end Go.Abs
