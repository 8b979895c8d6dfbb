/-
  A part of a proof.
-/
import Derived.Test.YtjjdebhkbfeniaaGreatDoorVc
import Derived.Test.YtjjdebhkbfeniaaGreatDoorVb
set_option linter.unusedSimpArgs false
set_option linter.unusedVariables false
set_option linter.unusedSectionVars false
set_option maxRecDepth 100000
set_option maxHeartbeats 16000000
namespace Go.Abs


structure Mov where
 k:Int
 a:Int
 b:Int
 c:Int
 l:Bool
 o:Bool
 s:Int
def Mov.ps(m:Mov):List PV:=[.int .i64 m.k, .int .i64 m.a, .int .i64 m.b, .int .i64 m.c, .bool m.l, .bool m.o, .int .i64 m.s]
abbrev movP(ms:List Mov):PV:= .sl (ms.map Mov.ps)
theorem mov_at{ms:List Mov}{k:Nat}{m:Mov}(h:ms[k]? =some m):(ms.map Mov.ps)[k]? =some m.ps:=by rw[List.getElem?_map,h];rfl
def cellL(L:List Let)(c:C)(blk:Blk):Prop:=grown 576256128 lsTy 6 (letP L) (.one c) blk∨grown 576512129 lsTy 6 (letP L) (.one c) blk∨(L=[]∧c= .p (.sl []))
theorem cellL.snap{L:List Let}{c:C}{blk:Blk}(h:cellL L c blk): ∃ r,Go.Abs.snap blk snapN c=some (lsP L,r):=by
 rcases h with h|h|⟨rfl,rfl⟩
 ·obtain⟨r,h1,_⟩:=h.snapN;exact⟨r,h1⟩
 ·obtain⟨r,h1,_⟩:=h.snapN;exact⟨r,h1⟩
 ·exact⟨[],rfl⟩
theorem grown_out3{s1 t1 z1:Nat}{es:List (List PV)}{c:C}{x y z:PV}{blk:Blk}(h:grown s1 t1 z1 es (.one c) blk):outV blk (.tup [.agg [.p x,c], .one (.p y), .one (.p z)])=some (.tup [.agg [.p x,grownR t1 z1 es], .one (.p y), .one (.p z)]):=by
 obtain⟨c',o,hc,h2,h3⟩:=h.outC;cases hc
 have e1:outC blk (.p x)=some (.p x,[],[]):=rfl;have e2:outC blk (.p y)=some (.p y,[],[]):=rfl;have e3:outC blk (.p z)=some (.p z,[],[]):=rfl;rcases h3 with rfl|rfl<;>simp[outV,flatV,flatVs,flatV1,outCs,h2,e1,e2,e3,apart,reshR,reshR1,reshRs]
theorem cellL.of_eq{L:List Let}{c:C}{blk blk':Blk}(h:cellL L c blk)(h1:blk' 576256128=blk 576256128)(h2:blk' 576512129=blk 576512129):cellL L c blk':=by
 rcases h with h|h|h
 ·exact .inl (h.of_eq h1)
 ·exact .inr (.inl (h.of_eq h2))
 ·exact .inr (.inr h)
theorem land_codeR{blk:Blk}{rd:List Nat}{s:Nat}{e:Int}{l:Bool}:land blk rd s ((rcode e).pureIf l)=some (.tup [.agg [.p (.int .i64 0), .p .nils], .one (.p (.int .i64 e))],[]):=by
 cases l<;>(unfold land;rw[if_pos (.inr rfl)];rfl)
def isN(r:RV):Prop:= ∃ i:Int,r=ri i
abbrev movV1(m:Mov):V:=mvV m.k m.a m.b m.c m.l m.o m.s
section
variable {Q:Post} {env:Env} {blk:Blk} {os:List IOper} {d:Option Nat}
end
theorem land_rep3{blk:Blk}{s:Nat}{x c y w:PV}{l:Bool}:land blk [] s ((RV.tup [.agg [.p x, .p c], .one (.p y), .one (.p w)]).pureIf l)=some (.tup [.agg [.p x, .p c], .one (.p y), .one (.p w)],[]):=by cases l<;>rfl
def cellK(s:Nat)(L:List Let)(c:C)(blk:Blk):Prop:=grown s lsTy 6 (letP L) (.one c) blk∨(L=[]∧c= .p (.sl []))
theorem cellK.snap{s:Nat}{L:List Let}{c:C}{blk:Blk}(h:cellK s L c blk): ∃ r,Go.Abs.snap blk snapN c=some (lsP L,r):=by
 rcases h with h|⟨rfl,rfl⟩
 ·obtain⟨r,h1,_⟩:=h.snapN;exact⟨r,h1⟩
 ·exact⟨[],rfl⟩
theorem cellK.of_eq{s:Nat}{L:List Let}{c:C}{blk blk':Blk}(h:cellK s L c blk)(h1:blk' s=blk s):cellK s L c blk':=by
 rcases h with h|h
 ·exact .inl (h.of_eq h1)
 ·exact .inr h
section
variable {Q:Post} {env:Env} {blk:Blk} {os:List IOper} {d:Option Nat}
end
end Go.Abs
