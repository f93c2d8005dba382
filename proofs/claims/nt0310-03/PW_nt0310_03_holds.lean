import PyProof.Rows.All
import Wide.All
import OpenK.AllK
import Wide.FinOn
import Lean
import PySem.Challenge.RW_nt0310_03
set_option Elab.async false
set_option maxRecDepth 100000
set_option linter.all false
set_option maxHeartbeats 0
set_option autoImplicit true
set_option relaxedAutoImplicit true
set_option compiler.extract_closed false
set_option genSizeOf false
set_option genSizeOfSpec false
set_option genInjectivity false
section
set_option compiler.extract_closed false
namespace Mine.Internal
open Lean in def aT (a : Array Syntax) : Syntax :=.node .none ``Parser.Tactic.tacticSeq #[.node .none ``Parser.Tactic.tacticSeq1Indented #[.node .none `null a]]
open Lean in def aN (k : Name) (s : String) (a : Array Syntax) : Syntax :=.node .none k (#[.atom .none s] ++ a)
open Lean in def aO (a : Array Syntax) : Syntax :=.node .none `null a
open Lean in def aR : Syntax := aT #[aN ``Parser.Tactic.tacticRfl "rfl" #[]]
open Lean in def aD : Syntax := aT #[aN ``Parser.Tactic.decide "decide" #[.node .none ``Parser.Tactic.optConfig #[aO #[]]]]
open Lean in def aL : Syntax := aT #[aN ``Parser.Tactic.exact "exact" #[.node .none ``Parser.Term.app #[mkIdent ``Nat.le_of_ble_eq_true, aO #[mkIdent ``rfl]]]]
open Lean in def aK : Syntax := aT #[aN ``Parser.Tactic.intro "intro" #[aO #[]], .atom .none ";", aN `tacticKernel_rfl "kernel_rfl" #[]]
open Lean in def aB : Syntax := aT #[aN `Lean.Parser.Tactic.tacticRepeat_ "repeat" #[aT #[aN ``Parser.Tactic.intro "intro" #[aO #[]]]], .atom .none ";", aN `tacticKernel_rfl "kernel_rfl" #[]]
open Lean in def aA : Syntax := aT #[aN ``Parser.Tactic.assumption "assumption" #[]]
theorem cA {p:Prop}(h:autoParam p aB):p:=h
theorem bW {p:Prop}(h:autoParam p aA):p:=h
theorem dc {p:Prop}[Decidable p](h:autoParam (decide p=true) aR):p:=of_decide_eq_true h
theorem bl {n m:Nat}(h:autoParam (Nat.ble n m=true) aR):n<=m:=Nat.le_of_ble_eq_true h
end Mine.Internal
end
section
set_option linter.all false
namespace Mine.Internal
@[elab_as_elim] theorem B {c:Sort _} {a b:c} {motive:c->Prop} (h:a=b) (p:motive b):motive a:=h▸p
@[elab_as_elim] theorem az {c:Sort _} {a b:c} {motive:c->Prop} (h:a=b) (p:motive a):motive b:=h▸p
theorem Ka {A H G:Prop}(h:A/\H)(k:A->H->G):G:=k h.1 h.2
theorem Ke {a:Sort _}{A:a->Prop}{G:Prop}(h:∃x:a,A x)(k:(x:a)->A x->G):G:=h.elim λc b=>k c b
theorem dD {A H C G:Prop}(h:A/\H/\C)(k:A->H->C->G):G:=k h.1 h.2.1 h.2.2
theorem Bq {a:Sort _}{A:Prop}{H:a->Prop}{G:Prop}(h:A/\∃x:a,H x)(k:A->(x:a)->H x->G):G:=h.2.elim λc b=>k h.1 c b
theorem ai {a:Sort _}{A H:a->Prop}{G:Prop}(h:∃x:a,A x/\H x)(k:(x:a)->A x->H x->G):G:=h.elim λc b=>k c b.1 b.2
theorem eJ {a b:Sort _}{A:a->b->Prop}{G:Prop}(h:∃x:a,∃y:b,A x y)(k:(x:a)->(y:b)->A x y->G):G:=h.elim λe c=>c.elim λf d=>k e f d
theorem lz {A H C D G:Prop}(h:A/\H/\C/\D)(k:A->H->C->D->G):G:=k h.1 h.2.1 h.2.2.1 h.2.2.2
theorem yf {a:Sort _}{A:Prop}{H C:a->Prop}{G:Prop}(h:A/\∃x:a,H x/\C x)(k:A->(x:a)->H x->C x->G):G:=h.2.elim λc b=>k h.1 c b.1 b.2
theorem gk {b:Sort _}{A H C:b->Prop}{G:Prop}(h:∃x:b,A x/\H x/\C x)(k:(x:b)->A x->H x->C x->G):G:=h.elim λc a=>k c a.1 a.2.1 a.2.2
theorem uD {a b:Sort _}{A:a->Prop}{H:a->b->Prop}{G:Prop}(h:∃x:a,A x/\∃y:b,H x y)(k:(x:a)->A x->(y:b)->H x y->G):G:=h.elim λe c=>c.2.elim λf d=>k e c.1 f d
theorem fj {a b:Sort _}{A H:a->b->Prop}{G:Prop}(h:∃x:a,∃y:b,A x y/\H x y)(k:(x:a)->(y:b)->A x y->H x y->G):G:=h.elim λe d=>d.elim λf c=>k e f c.1 c.2
theorem aeh {a b c:Sort _}{A:a->b->c->Prop}{G:Prop}(h:∃x:a,∃y:b,∃z:c,A x y z)(k:(x:a)->(y:b)->(z:c)->A x y z->G):G:=h.elim λg d=>d.elim λi e=>e.elim λj f=>k g i j f
theorem aei {A H C D E G:Prop}(h:A/\H/\C/\D/\E)(k:A->H->C->D->E->G):G:=k h.1 h.2.1 h.2.2.1 h.2.2.2.1 h.2.2.2.2
theorem Br {a b:Sort _}{A:Prop}{H C:a->b->Prop}{G:Prop}(h:A/\∃x:a,∃y:b,H x y/\C x y)(k:A->(x:a)->(y:b)->H x y->C x y->G):G:=h.2.elim λe d=>d.elim λf c=>k h.1 e f c.1 c.2
theorem aej {b:Sort _}{A H C D:b->Prop}{G:Prop}(h:∃x:b,A x/\H x/\C x/\D x)(k:(x:b)->A x->H x->C x->D x->G):G:=h.elim λc a=>k c a.1 a.2.1 a.2.2.1 a.2.2.2
theorem oY {a c:Sort _}{A H:a->Prop}{C:a->c->Prop}{G:Prop}(h:∃x:a,A x/\H x/\∃y:c,C x y)(k:(x:a)->A x->H x->(y:c)->C x y->G):G:=h.elim λe b=>b.2.2.elim λf d=>k e b.1 b.2.1 f d
theorem n2 {b c:Sort _}{A H C:b->c->Prop}{G:Prop}(h:∃x:b,∃y:c,A x y/\H x y/\C x y)(k:(x:b)->(y:c)->A x y->H x y->C x y->G):G:=h.elim λe d=>d.elim λf a=>k e f a.1 a.2.1 a.2.2
theorem iY {a b c:Sort _}{A H:a->b->c->Prop}{G:Prop}(h:∃x:a,∃y:b,∃z:c,A x y z/\H x y z)(k:(x:a)->(y:b)->(z:c)->A x y z->H x y z->G):G:=h.elim λg e=>e.elim λi f=>f.elim λj d=>k g i j d.1 d.2
theorem aek {a b c d:Sort _}{A:a->b->c->d->Prop}{G:Prop}(h:∃x:a,∃y:b,∃z:c,∃u:d,A x y z u)(k:(x:a)->(y:b)->(z:c)->(u:d)->A x y z u->G):G:=h.elim λj e=>e.elim λl f=>f.elim λm g=>g.elim λn i=>k j l m n i
theorem ael {a b c:Sort _}{A:Prop}{H C:a->b->c->Prop}{G:Prop}(h:A/\∃x:a,∃y:b,∃z:c,H x y z/\C x y z)(k:A->(x:a)->(y:b)->(z:c)->H x y z->C x y z->G):G:=h.2.elim λg e=>e.elim λi f=>f.elim λj d=>k h.1 g i j d.1 d.2
theorem lA {b c:Sort _}{A H C D:b->c->Prop}{G:Prop}(h:∃x:b,∃y:c,A x y/\H x y/\C x y/\D x y)(k:(x:b)->(y:c)->A x y->H x y->C x y->D x y->G):G:=h.elim λe d=>d.elim λf a=>k e f a.1 a.2.1 a.2.2.1 a.2.2.2
theorem jr {b c d:Sort _}{A H C:b->c->d->Prop}{G:Prop}(h:∃x:b,∃y:c,∃z:d,A x y z/\H x y z/\C x y z)(k:(x:b)->(y:c)->(z:d)->A x y z->H x y z->C x y z->G):G:=h.elim λg e=>e.elim λi f=>f.elim λj a=>k g i j a.1 a.2.1 a.2.2
theorem aem {a b c d:Sort _}{A H:a->b->c->d->Prop}{G:Prop}(h:∃x:a,∃y:b,∃z:c,∃u:d,A x y z u/\H x y z u)(k:(x:a)->(y:b)->(z:c)->(u:d)->A x y z u->H x y z u->G):G:=h.elim λj f=>f.elim λl g=>g.elim λm i=>i.elim λn e=>k j l m n e.1 e.2
theorem aen {b:Sort _}{A H C D E F:b->Prop}{G:Prop}(h:∃x:b,A x/\H x/\C x/\D x/\E x/\F x)(k:(x:b)->A x->H x->C x->D x->E x->F x->G):G:=h.elim λc a=>k c a.1 a.2.1 a.2.2.1 a.2.2.2.1 a.2.2.2.2.1 a.2.2.2.2.2
theorem aeo {b c:Sort _}{A H C D E:b->c->Prop}{G:Prop}(h:∃x:b,∃y:c,A x y/\H x y/\C x y/\D x y/\E x y)(k:(x:b)->(y:c)->A x y->H x y->C x y->D x y->E x y->G):G:=h.elim λe d=>d.elim λf a=>k e f a.1 a.2.1 a.2.2.1 a.2.2.2.1 a.2.2.2.2
theorem Bt {b c d:Sort _}{A H C D:b->c->d->Prop}{G:Prop}(h:∃x:b,∃y:c,∃z:d,A x y z/\H x y z/\C x y z/\D x y z)(k:(x:b)->(y:c)->(z:d)->A x y z->H x y z->C x y z->D x y z->G):G:=h.elim λg e=>e.elim λi f=>f.elim λj a=>k g i j a.1 a.2.1 a.2.2.1 a.2.2.2
theorem aS {A H C:Prop}(a:A)(b:H)(c:C):A/\H/\C:=⟨a,b,c⟩
theorem Gf {a:Sort _}{A:Prop}{H:a->Prop}(b:A)(x:a)(c:H x):A/\∃x:a,H x:=⟨b,x,c⟩
theorem aQ {a:Sort _}{A H:a->Prop}(x:a)(b:A x)(c:H x):∃x:a,A x/\H x:=⟨x,b,c⟩
theorem mH {a b:Sort _}{A:a->b->Prop}(x:a)(y:b)(c:A x y):∃x:a,∃y:b,A x y:=⟨x,y,c⟩
theorem cZ {A H C D:Prop}(a:A)(b:H)(c:C)(d:D):A/\H/\C/\D:=⟨a,b,c,d⟩
theorem Gg {a:Sort _}{A:Prop}{H C:a->Prop}(b:A)(x:a)(c:H x)(d:C x):A/\∃x:a,H x/\C x:=⟨b,x,c,d⟩
theorem gD {a:Sort _}{A H C:a->Prop}(x:a)(b:A x)(c:H x)(d:C x):∃x:a,A x/\H x/\C x:=⟨x,b,c,d⟩
theorem yg {a b:Sort _}{A:a->Prop}{H:a->b->Prop}(x:a)(c:A x)(y:b)(d:H x y):∃x:a,A x/\∃y:b,H x y:=⟨x,c,y,d⟩
theorem gE {a b:Sort _}{A H:a->b->Prop}(x:a)(y:b)(c:A x y)(d:H x y):∃x:a,∃y:b,A x y/\H x y:=⟨x,y,c,d⟩
theorem OD {a b c:Sort _}{A:a->b->c->Prop}(x:a)(y:b)(z:c)(d:A x y z):∃x:a,∃y:b,∃z:c,A x y z:=⟨x,y,z,d⟩
theorem gm {A H C D E:Prop}(a:A)(b:H)(c:C)(d:D)(e:E):A/\H/\C/\D/\E:=⟨a,b,c,d,e⟩
theorem aep {a b:Sort _}{A:Prop}{H C:a->b->Prop}(c:A)(x:a)(y:b)(d:H x y)(e:C x y):A/\∃x:a,∃y:b,H x y/\C x y:=⟨c,x,y,d,e⟩
theorem aeq {a:Sort _}{A H C D:a->Prop}(x:a)(b:A x)(c:H x)(d:C x)(e:D x):∃x:a,A x/\H x/\C x/\D x:=⟨x,b,c,d,e⟩
theorem uE {a b:Sort _}{A H:a->Prop}{C:a->b->Prop}(x:a)(c:A x)(d:H x)(y:b)(e:C x y):∃x:a,A x/\H x/\∃y:b,C x y:=⟨x,c,d,y,e⟩
theorem aer {a b:Sort _}{A:a->Prop}{H C:a->b->Prop}(x:a)(c:A x)(y:b)(d:H x y)(e:C x y):∃x:a,A x/\∃y:b,H x y/\C x y:=⟨x,c,y,d,e⟩
theorem iZ {a b:Sort _}{A H C:a->b->Prop}(x:a)(y:b)(c:A x y)(d:H x y)(e:C x y):∃x:a,∃y:b,A x y/\H x y/\C x y:=⟨x,y,c,d,e⟩
theorem js {a b c:Sort _}{A H:a->b->c->Prop}(x:a)(y:b)(z:c)(d:A x y z)(e:H x y z):∃x:a,∃y:b,∃z:c,A x y z/\H x y z:=⟨x,y,z,d,e⟩
theorem aes {a b c d:Sort _}{A:a->b->c->d->Prop}(x:a)(y:b)(z:c)(u:d)(e:A x y z u):∃x:a,∃y:b,∃z:c,∃u:d,A x y z u:=⟨x,y,z,u,e⟩
theorem jt {A H C D E F:Prop}(a:A)(b:H)(c:C)(d:D)(e:E)(f:F):A/\H/\C/\D/\E/\F:=⟨a,b,c,d,e,f⟩
theorem aet {a b:Sort _}{A H:Prop}{C D:a->b->Prop}(c:A)(d:H)(x:a)(y:b)(e:C x y)(f:D x y):A/\H/\∃x:a,∃y:b,C x y/\D x y:=⟨c,d,x,y,e,f⟩
theorem lB {a b:Sort _}{A H C D:a->b->Prop}(x:a)(y:b)(c:A x y)(d:H x y)(e:C x y)(f:D x y):∃x:a,∃y:b,A x y/\H x y/\C x y/\D x y:=⟨x,y,c,d,e,f⟩
theorem qq {a b c:Sort _}{A H C:a->b->c->Prop}(x:a)(y:b)(z:c)(d:A x y z)(e:H x y z)(f:C x y z):∃x:a,∃y:b,∃z:c,A x y z/\H x y z/\C x y z:=⟨x,y,z,d,e,f⟩
theorem yh {A H C D E F G:Prop}(a:A)(b:H)(c:C)(d:D)(e:E)(f:F)(g:G):A/\H/\C/\D/\E/\F/\G:=⟨a,b,c,d,e,f,g⟩
theorem aeu {a:Sort _}{A H C D E F:a->Prop}(x:a)(b:A x)(c:H x)(d:C x)(e:D x)(f:E x)(g:F x):∃x:a,A x/\H x/\C x/\D x/\E x/\F x:=⟨x,b,c,d,e,f,g⟩
theorem aev {a b:Sort _}{A H C D E:a->b->Prop}(x:a)(y:b)(c:A x y)(d:H x y)(e:C x y)(f:D x y)(g:E x y):∃x:a,∃y:b,A x y/\H x y/\C x y/\D x y/\E x y:=⟨x,y,c,d,e,f,g⟩
theorem aew {a b c:Sort _}{A H C D:a->b->c->Prop}(x:a)(y:b)(z:c)(d:A x y z)(e:H x y z)(f:C x y z)(g:D x y z):∃x:a,∃y:b,∃z:c,A x y z/\H x y z/\C x y z/\D x y z:=⟨x,y,z,d,e,f,g⟩
end Mine.Internal
end
noncomputable section
open PySem PySem.W PySem.Calls PyProof.Rows
namespace Mine.Internal
section
variable {p q:Program}{loose:List Str}{f:Shared->Bool}{i:Type}{g:Shared->i}{j:World->i}{N:Nat}{g0:Bool}
theorem OE {b:Params->Heap}{c:Array GenState}{l:Drawn}{m v:Nat}{n:Option Value}{M:Nat}
  (G:∀w:World,(fencedOpening treeTable p w N).map (λs=>(s.heap,s.gens,s.drawn,s.toks))=some (b w.params,c,l,m))
  (size:∀w:World,((b w.params).isNs mainGlobals&&c.size==0,(b w.params).objs.size,(b w.params).nsMap mainGlobals "__annotations__")=(true,v,n))
  (run:∀(w:World) (os:OsState),∃a,topRun treeTable p w v n M ⟨b w.params,c,l,m,os⟩ (topStub p)=some a/\
   (staticsOk (importedModules p.main.body) (b w.params) a.heap&&namesBound p a.heap&&gensDone a&&laidKept (b w.params) a.heap)=true/\
   openSeen q loose (importedModules p.main.body) f g0 a=openGood q loose/\g a=j w) (D:Nat.ble M N=true):LeftO p q loose f g j N g0:=λw=>by
 refine ai (Option.map_eq_some_iff.mp (G w)) λU e x=>?_;obtain⟨h,u,d,k,os⟩:=U;obtain⟨rfl,rfl,rfl,rfl⟩:h=b w.params/\u=c/\d=l/\k=m:=by simpa using x
 obtain⟨I,J,L⟩:_/\_/\_:=by simpa only[Prod.mk.injEq] using size w
 refine ai (run w os) λa y z=>dD z λA H C=>?_;have r:=topRun_mono (N-M) _ _ _ _ y;rw[Nat.add_sub_of_le (Nat.le_of_ble_eq_true D)] at r;have t:topFrom treeTable p w N ⟨b w.params,u,d,k,os⟩=some a:=by unfold topFrom;dsimp only;rw[I,J,L,r];show(match staticsOk (importedModules p.main.body) (b w.params) a.heap&&namesBound p a.heap&&gensDone a&&laidKept (b w.params) a.heap with|true=>_|false=>_)=_;rw[A]
 unfold openEnds;rw[e];show(topFrom treeTable p w N _).map _=_;rw[t];exact congrArg some (Prod.ext H C)
theorem OF {w:World}{l:Nat}{h:Option Value}{c:Code}{m k:Pos}(s:Shared):topRun treeTable p w l h 2 s ⟨doneF .next,c,m,[topFrame k]⟩=some s:=by obtain⟨a,b,c,d,e⟩:=s;rfl
theorem OG {w:World}{c:Nat}{a:Option Value}{env:Env}{b:List Stmt}{fq posA posB s:Pos}{m l:Shared}{sB d:SharedT}{e h k:Nat}
  (pre:topGo treeTable p w c a e m (topStub p)=some (l,⟨denote treeTable (.body b env),.body b env,posA,[topFrame fq]⟩))
  (n:segRun treeTable p w c a 1 h l (blockOf b env (.body b env) posA [topFrame fq])=some (.next,sB.abs,.body b env,posB))
  (r:segRunT treeTable p w c a 1 k sB (piecesOf b env (.body b env) posB [topFrame fq])=some (.next,d,.body b env,s)):
  topRun treeTable p w c a (e+(h+(k+2))) m (topStub p)=some d.abs:=by
 refine go_top pre (piece_block n ?_);have:=piece_app (rest:=[]) (segRun_of r) (piece_nil (OF d.abs));rwa[List.append_nil] at this
end
noncomputable def gb:Value:=.str "gitcore.base" 194
noncomputable def gr:Value:=.str "gitcore.refs" 681
noncomputable def gd:Value:=.str "gitcore.disk" 389
noncomputable def E (P:Params)(x:Str)(t:Tok)(v:Value):DictEntry:=⟨PyData.keyHash P x,.str x t,v⟩
noncomputable abbrev pw:Program:=PySem.Challenge.pw_nt0310_03
def st (i:Nat):Stmt:=(pw.main.body[i]?).getD (.Pass default)
noncomputable def me (i j:Nat):Stmt:=if h:(st i).ctorIdx=2 then Stmt.ClassDef.elim (motive_2:=λO=>Stmt) (st i) h λO O O b O O O O O O O=>(b[j]?).getD (.Pass default) else st i
noncomputable def F (s:Stmt)(q:Str)(d b a:Value):Obj:=if h:s.ctorIdx=0 then Stmt.FunctionDef.elim (motive_2:=λO=>Obj) s h λname args body O O O scope O O O=>{cls:=.type "function",data:=.func {name,qualname:=q,params:=args,body:=.stmts body,scope,globals:=3,closure:=[],defaults:=d,kwdefaults:=.none,pyModule:=b,code:=a,builtins:=0}} else default
noncomputable def Cd (n q:Str)(t l a r e:Nat)(m:Bool):Nat×Obj:=(cond m (r+5) (r+3),⟨.type "code",none,.fields #[.str n t,.str q (t+1),.str "/claim/cut.py" (t+2),.int l 0,.int a 0,.int 0 0,.int 0 0,.int 3 0,.ref r,.bool true,.int 181 0,.ref (r+1),.none,cond m (.ref (r+2)) .none,cond m (.ref (r+3)) .none,.ref (cond m (r+4) (r+2)),.int e 0,.int l 0,.str "/claim/cut.py" (e+1)],#[]⟩)
noncomputable def TT (a:Nat)(l:Array Value):Nat×Obj:=(a,⟨.type "tuple",none,.seq l 0,#[]⟩)
noncomputable def DD (a:Nat)(l:Array DictEntry)(n:Nat):Nat×Obj:=(a,⟨.type "dict",none,.dict l n,#[]⟩)
noncomputable def CC (a:Nat)(n:Str)(b m s:List Value)(o:Option Value)(x y:Nat)(w:String):Nat×Obj:=(a,⟨.type "type",none,.cls {name:=n,bases:=b,mro:=.ref a::m,ns:=a-1,qualname:=n,hasDict:=true,slotNames:=[],subclasses:=s,abstract:=false,collection:=none,hasDel:=false},#[o,none,some (.str n x),some (.str n y),some (.builtin w),some (.bool true)]⟩)
def FC (s:Stmt) (n q:Str) (t l a r e:Nat) (m:Bool) (d b:Value):List (Nat×Obj):=[Cd n q t l a r e m,(cond m (r+6) (r+4),F s q d b (.ref (cond m (r+5) (r+3))))]
def K0 (P:Params):List (Nat×Obj):=[
 (2,⟨.none,none,(.dict #[E P "type.__subclasses__.Exception.0" 226 (.int 39 0),E P "type.__subclasses__.Exception.n" 227 (.int 1 0)] 2),#[]⟩),
 DD 3 #[E P "__name__" 165 (.str "law_nt0310_03" 1332),E P "__doc__" 166 .none,E P "__package__" 167 .none,E P "__loader__" 168 (.builtin "__main__.__loader__#opaque"),E P "__spec__" 169 .none,E P "__annotations__" 170 (.ref 6),E P "__builtins__" 171 (.ref 4),E P "__file__" 173 (.str "/claim/cut.py" 172),E P "__cached__" 174 .none,E P "_wall" 193 (.ref 21),E P "FILE" 197 (.int 33188 196),E P "HEX_SIGNS" 199 (.str "0123456789abcdef" 198),E P "GitError" 229 (.ref 39),E P "BadObject" 245 (.ref 52),E P "BadRefName" 261 (.ref 64),E P "RefLocked" 277 (.ref 76),E P "RefMismatch" 293 (.ref 88),E P "DiskError" 309 (.ref 100),E P "Crash" 325 (.ref 112),E P "BadState" 341 (.ref 124),E P "text_of" 347 (.ref 131),E P "octets_of" 353 (.ref 136),E P "hex_of" 362 (.ref 143),E P "hex_digit" 370 (.ref 150),E P "octets_of_hex" 381 (.ref 157),E P "zero_id" 388 (.ref 164),E P "LOCK_END" 392 (.bytes #[46,108,111,99,107] 391),E P "disk_parents" 398 (.ref 169),E P "disk_join" 406 (.ref 176),E P "Disk" 610 (.ref 327),E P "Lock" 680 (.ref 384),E P "REF_STEPS" 684 (.int 5 683),E P "REF_SYMBOL" 686 (.bytes #[114,101,102,58] 685),E P "REF_BLANKS" 688 (.bytes #[32,9,13,10] 687),E P "REF_HEX" 690 (.bytes #[48,49,50,51,52,53,54,55,56,57,97,98,99,100,101,102,65,66,67,68,69,70] 689),E P "REF_FORBIDDEN" 692 (.str "~^:?*[\\" 691),E P "REF_ROOT" 694 (.str "refs/" 693),E P "REF_HEAD" 696 (.str "HEAD" 695),E P "REF_PACKED" 698 (.str "packed-refs" 697),E P "REF_TITLE" 700 (.bytes #[35,32,112,97,99,107,45,114,101,102,115,32,119,105,116,104,58] 699),E P "REF_TRAITS" 702 (.bytes #[32,112,101,101,108,101,100,32,102,117,108,108,121,45,112,101,101,108,101,100,32,115,111,114,116,101,100,32] 701),E P "REF_LOGGED" 706 (.ref 389),E P "REF_RULES" 719 (.ref 396),E P "check_ref_name" 731 (.ref 404),E P "ref_is_name" 740 (.ref 412),E P "ref_is_top" 746 (.ref 417),E P "ref_check" 753 (.ref 424),E P "ref_folders" 759 (.ref 429),E P "ref_is_logged" 765 (.ref 434),E P "ref_candidates" 771 (.ref 439),E P "ref_id" 777 (.ref 444),E P "ref_octets" 785 (.ref 451),E P "PackedRef" 826 (.ref 476),E P "ref_packed_octets" 835 (.ref 487),E P "ref_packed_row" 846 (.ref 494),E P "read_packed" 852 (.ref 500),E P "RefChange" 892 (.ref 518),E P "RefReader" 1053 (.ref 634),E P "RefStore" 1122 (.ref 685),E P "ref_take" 1130 (.ref 694),E P "RefPlan" 1182 (.ref 725),E P "RefTransaction" 1320 (.ref 817),E P "ref_by_name" 1331 (.ref 828),E P "_law_deck" 1339 (.ref 833),E P "_law_draw" 1349 (.ref 840),E P "_law_pick" 1357 (.ref 847),E P "_law_oid" 1364 (.ref 854),E P "_law_pool" 1371 (.ref 861),E P "_law_six" 1377 (.ref 866),E P "_law_short" 1383 (.ref 871),E P "_law_short_right" 1389 (.ref 876),E P "_law_octets" 1395 (.ref 881),E P "_law_end" 1404 (.ref 888),E P "_law_told" 1416 (.ref 895),E P "_law_way_right" 1422 (.ref 900),E P "law" 1436 (.ref 907)] 76,
 TT 29 #[.str "" 212],
 DD 38 #[E P "__module__" 207 gb,E P "__firstlineno__" 211 (.int 7 210),E P "__init__" 220 (.ref 36),E P "__static_attributes__" 222 (.ref 37),E P "__weakref__" 224 (.ref 40),E P "__doc__" 225 .none] 3,
 CC 39 "GitError" [.type "Exception"] [.type "Exception",.type "BaseException",.type "object"] [.ref 52,.ref 64,.ref 76,.ref 88,.ref 100,.ref 112,.ref 124] (some (.ref 22)) 200 208 "Exception.__new__",
 DD 51 #[E P "__module__" 237 gb,E P "__firstlineno__" 241 (.int 11 240),E P "__static_attributes__" 242 (.ref 50),E P "__doc__" 243 .none] 2,
 CC 52 "BadObject" [.ref 39] [.ref 39,.type "Exception",.type "BaseException",.type "object"] [] (some (.ref 43)) 230 238 "Exception.__new__",
 DD 63 #[E P "__module__" 253 gb,E P "__firstlineno__" 257 (.int 13 256),E P "__static_attributes__" 258 (.ref 62),E P "__doc__" 259 .none] 2,
 CC 64 "BadRefName" [.ref 39] [.ref 39,.type "Exception",.type "BaseException",.type "object"] [] (some (.ref 55)) 246 254 "Exception.__new__",
 DD 75 #[E P "__module__" 269 gb,E P "__firstlineno__" 273 (.int 15 272),E P "__static_attributes__" 274 (.ref 74),E P "__doc__" 275 .none] 2,
 CC 76 "RefLocked" [.ref 39] [.ref 39,.type "Exception",.type "BaseException",.type "object"] [] (some (.ref 67)) 262 270 "Exception.__new__",
 DD 87 #[E P "__module__" 285 gb,E P "__firstlineno__" 289 (.int 17 288),E P "__static_attributes__" 290 (.ref 86),E P "__doc__" 291 .none] 2,
 CC 88 "RefMismatch" [.ref 39] [.ref 39,.type "Exception",.type "BaseException",.type "object"] [] (some (.ref 79)) 278 286 "Exception.__new__",
 DD 99 #[E P "__module__" 301 gb,E P "__firstlineno__" 305 (.int 19 304),E P "__static_attributes__" 306 (.ref 98),E P "__doc__" 307 .none] 2,
 CC 100 "DiskError" [.ref 39] [.ref 39,.type "Exception",.type "BaseException",.type "object"] [] (some (.ref 91)) 294 302 "Exception.__new__",
 DD 111 #[E P "__module__" 317 gb,E P "__firstlineno__" 321 (.int 21 320),E P "__static_attributes__" 322 (.ref 110),E P "__doc__" 323 .none] 2,
 CC 112 "Crash" [.ref 39] [.ref 39,.type "Exception",.type "BaseException",.type "object"] [] (some (.ref 103)) 310 318 "Exception.__new__",
 DD 123 #[E P "__module__" 333 gb,E P "__firstlineno__" 337 (.int 23 336),E P "__static_attributes__" 338 (.ref 122),E P "__doc__" 339 .none] 2,
 CC 124 "BadState" [.ref 39] [.ref 39,.type "Exception",.type "BaseException",.type "object"] [] (some (.ref 115)) 326 334 "Exception.__new__",
 TT 254 #[.int 33188 196],
 DD 326 #[E P "__module__" 414 gd,E P "__firstlineno__" 418 (.int 70 417),E P "__init__" 425 (.ref 190),E P "read" 433 (.ref 197),E P "mode_of" 441 (.ref 204),E P "has" 449 (.ref 211),E P "is_folder" 457 (.ref 218),E P "names" 465 (.ref 225),E P "walk" 478 (.ref 232),E P "size" 486 (.ref 239),E P "file_at" 494 (.ref 246),E P "deed" 501 (.ref 253),E P "write" 511 (.ref 261),E P "append" 522 (.ref 268),E P "set_mode" 531 (.ref 275),E P "rename" 542 (.ref 282),E P "remove" 550 (.ref 289),E P "remove_folder" 558 (.ref 296),E P "copy" 565 (.ref 303),E P "check_place" 575 (.ref 310),E P "keep" 588 (.ref 317),E P "forget" 599 (.ref 324),E P "__static_attributes__" 603 (.ref 325),E P "__dict__" 605 (.ref 328),E P "__weakref__" 607 (.ref 329),E P "__doc__" 608 .none] 4,
 CC 327 "Disk" [.type "object"] [.type "object"] [] none 407 415 "object.__new__",
 TT 353 #[.int 33188 196],
 DD 383 #[E P "__module__" 618 gd,E P "__firstlineno__" 622 (.int 180 621),E P "__init__" 631 (.ref 345),E P "take" 638 (.ref 352),E P "put" 647 (.ref 360),E P "commit" 654 (.ref 367),E P "drop" 661 (.ref 374),E P "check_held" 668 (.ref 381),E P "__static_attributes__" 673 (.ref 382),E P "__dict__" 675 (.ref 385),E P "__weakref__" 677 (.ref 386),E P "__doc__" 678 .none] 4,
 CC 384 "Lock" [.type "object"] [.type "object"] [] none 611 619 "object.__new__",
 TT 389 #[.str "refs/heads/" 703,.str "refs/remotes/" 704,.str "refs/notes/" 705],
 TT 390 #[.str "" 707,.str "" 708],
 TT 391 #[.str "refs/" 709,.str "" 710],
 TT 392 #[.str "refs/tags/" 711,.str "" 712],
 TT 393 #[.str "refs/heads/" 713,.str "" 714],
 TT 394 #[.str "refs/remotes/" 715,.str "" 716],
 TT 395 #[.str "refs/remotes/" 717,.str "/HEAD" 718],
 TT 396 #[.ref 390,.ref 391,.ref 392,.ref 393,.ref 394,.ref 395],
 TT 397 #[.bool false],
 TT 405 #[.bool false],
 TT 459 #[.none],
 DD 475 #[E P "__module__" 793 gr,E P "__firstlineno__" 797 (.int 271 796),E P "__init__" 807 (.ref 466),E P "octets" 815 (.ref 473),E P "__static_attributes__" 819 (.ref 474),E P "__dict__" 821 (.ref 477),E P "__weakref__" 823 (.ref 478),E P "__doc__" 824 .none] 4,
 CC 476 "PackedRef" [.type "object"] [.type "object"] [] none 786 794 "object.__new__",
 TT 495 #[.none],
 TT 508 #[.none,.bool false,.str "" 865,.bool true],
 DD 517 #[E P "__module__" 860 gr,E P "__firstlineno__" 864 (.int 318 863),E P "__init__" 878 (.ref 515),E P "__static_attributes__" 885 (.ref 516),E P "__dict__" 887 (.ref 519),E P "__weakref__" 889 (.ref 520),E P "__doc__" 890 .none] 4,
 CC 518 "RefChange" [.type "object"] [.type "object"] [] none 853 861 "object.__new__",
 TT 614 #[.str "refs/" 693],
 DD 633 #[E P "__module__" 900 gr,E P "__firstlineno__" 904 (.int 327 903),E P "__init__" 914 (.ref 536),E P "path_of" 923 (.ref 543),E P "packed" 931 (.ref 550),E P "packed_row" 940 (.ref 557),E P "loose" 953 (.ref 564),E P "raw" 963 (.ref 571),E P "chain" 975 (.ref 578),E P "resolve" 985 (.ref 585),E P "id_of" 993 (.ref 592),E P "way_of" 1002 (.ref 599),E P "has" 1010 (.ref 606),E P "loose_names" 1021 (.ref 613),E P "names" 1027 (.ref 619),E P "peeled" 1036 (.ref 626),E P "short_name" 1042 (.ref 631),E P "__static_attributes__" 1046 (.ref 632),E P "__dict__" 1048 (.ref 635),E P "__weakref__" 1050 (.ref 636),E P "__doc__" 1051 .none] 4,
 CC 634 "RefReader" [.type "object"] [.type "object"] [.ref 685] none 893 901 "object.__new__",
 TT 646 #[.none],
 TT 654 #[.none],
 TT 662 #[.none,.str "" 1087],
 TT 670 #[.bool false,.none],
 DD 684 #[E P "__module__" 1061 gr,E P "__firstlineno__" 1065 (.int 441 1064),E P "__init__" 1076 (.ref 653),E P "apply" 1086 (.ref 661),E P "set_symbolic" 1098 (.ref 669),E P "pack" 1104 (.ref 675),E P "prune_loose" 1114 (.ref 682),E P "__static_attributes__" 1119 (.ref 683),E P "__doc__" 1120 .none] 2,
 CC 685 "RefStore" [.ref 634] [.ref 634,.type "object"] [] (some (.ref 639)) 1054 1062 "object.__new__",
 DD 724 #[E P "__module__" 1138 gr,E P "__firstlineno__" 1142 (.int 494 1141),E P "__init__" 1152 (.ref 708),E P "does_go" 1160 (.ref 715),E P "does_write" 1168 (.ref 722),E P "__static_attributes__" 1175 (.ref 723),E P "__dict__" 1177 (.ref 726),E P "__weakref__" 1179 (.ref 727),E P "__doc__" 1180 .none] 4,
 CC 725 "RefPlan" [.type "object"] [.type "object"] [] none 1131 1139 "object.__new__",
 DD 816 #[E P "__module__" 1190 gr,E P "__firstlineno__" 1194 (.int 509 1193),E P "__init__" 1203 (.ref 743),E P "planned" 1213 (.ref 750),E P "check_names" 1219 (.ref 755),E P "take" 1230 (.ref 762),E P "check_value" 1242 (.ref 769),E P "put_value" 1250 (.ref 776),E P "rows_left" 1262 (.ref 783),E P "prepare" 1268 (.ref 788),E P "commit" 1280 (.ref 795),E P "abort" 1288 (.ref 802),E P "names_to_log" 1294 (.ref 807),E P "put_logs" 1307 (.ref 814),E P "__static_attributes__" 1313 (.ref 815),E P "__dict__" 1315 (.ref 818),E P "__weakref__" 1317 (.ref 819),E P "__doc__" 1318 .none] 4,
 (817,⟨(.type "type"),none,(.cls {name:="RefTransaction",bases:=[(.type "object")],mro:=[(.ref 817),(.type "object")],ns:=816,qualname:="RefTransaction",hasDict:=true,slotNames:=[],subclasses:=[],abstract:=false,collection:=none,hasDel:=false}),#[none,none,(some (.str "RefTransaction" 1183)),(some (.str "RefTransaction" 1191)),(some (.builtin "object.__new__")),(some (.bool true))]⟩)]++List.flatten [
 FC (st 0) "_wall" "_wall" 187 1 1 15 191 true .none (.str "__main__" 164),
 FC (me 4 0) "__init__" "GitError.__init__" 213 9 2 30 218 true (.ref 29) gb,
 FC (st 12) "text_of" "text_of" 342 25 1 127 345 false .none gb,
 FC (st 13) "octets_of" "octets_of" 348 27 1 132 351 false .none gb,
 FC (st 14) "hex_of" "hex_of" 354 33 1 137 360 true .none gb,
 FC (st 15) "hex_digit" "hex_digit" 363 39 1 144 368 true .none gb,
 FC (st 16) "octets_of_hex" "octets_of_hex" 371 44 1 151 379 true .none gb,
 FC (st 17) "zero_id" "zero_id" 382 55 1 158 386 true .none gb,
 FC (st 20) "disk_parents" "disk_parents" 393 59 1 165 396 false .none gd,
 FC (st 21) "disk_join" "disk_join" 399 68 2 170 404 true .none gd,
 FC (me 22 0) "__init__" "Disk.__init__" 419 72 1 184 423 true .none gd,
 FC (me 22 1) "read" "Disk.read" 426 77 2 191 431 true .none gd,
 FC (me 22 2) "mode_of" "Disk.mode_of" 434 80 2 198 439 true .none gd,
 FC (me 22 3) "has" "Disk.has" 442 83 2 205 447 true .none gd,
 FC (me 22 4) "is_folder" "Disk.is_folder" 450 86 2 212 455 true .none gd,
 FC (me 22 5) "names" "Disk.names" 458 89 2 219 463 true .none gd,
 FC (me 22 6) "walk" "Disk.walk" 466 92 2 226 476 true .none gd,
 FC (me 22 7) "size" "Disk.size" 479 104 2 233 484 true .none gd,
 FC (me 22 8) "file_at" "Disk.file_at" 487 107 2 240 492 true .none gd,
 FC (me 22 9) "deed" "Disk.deed" 495 112 1 247 499 true .none gd,
 FC (me 22 10) "write" "Disk.write" 502 118 4 255 509 true (.ref 254) gd,
 FC (me 22 11) "append" "Disk.append" 512 125 3 262 520 true .none gd,
 FC (me 22 12) "set_mode" "Disk.set_mode" 523 133 3 269 529 true .none gd,
 FC (me 22 13) "rename" "Disk.rename" 532 136 3 276 540 true .none gd,
 FC (me 22 14) "remove" "Disk.remove" 543 146 2 283 548 true .none gd,
 FC (me 22 15) "remove_folder" "Disk.remove_folder" 551 151 2 290 556 true .none gd,
 FC (me 22 16) "copy" "Disk.copy" 559 154 1 297 563 true .none gd,
 FC (me 22 17) "check_place" "Disk.check_place" 566 157 2 304 573 true .none gd,
 FC (me 22 18) "keep" "Disk.keep" 576 164 4 311 586 true .none gd,
 FC (me 22 19) "forget" "Disk.forget" 589 171 2 318 597 true .none gd,
 FC (me 23 0) "__init__" "Lock.__init__" 623 182 3 339 629 true .none gd,
 FC (me 23 1) "take" "Lock.take" 632 188 1 346 636 true .none gd,
 FC (me 23 2) "put" "Lock.put" 639 194 3 354 645 true (.ref 353) gd,
 FC (me 23 3) "commit" "Lock.commit" 648 198 1 361 652 true .none gd,
 FC (me 23 4) "drop" "Lock.drop" 655 203 1 368 659 true .none gd,
 FC (me 23 5) "check_held" "Lock.check_held" 662 208 1 375 666 true .none gd,
 FC (st 37) "check_ref_name" "check_ref_name" 720 224 2 398 729 true (.ref 397) gr,
 FC (st 38) "ref_is_name" "ref_is_name" 732 239 2 406 738 true (.ref 405) gr,
 FC (st 39) "ref_is_top" "ref_is_top" 741 246 1 413 744 false .none gr,
 FC (st 40) "ref_check" "ref_check" 747 250 1 418 751 true .none gr,
 FC (st 41) "ref_folders" "ref_folders" 754 256 1 425 757 false .none gr,
 FC (st 42) "ref_is_logged" "ref_is_logged" 760 259 1 430 763 false .none gr,
 FC (st 43) "ref_candidates" "ref_candidates" 766 261 1 435 769 false .none gr,
 FC (st 44) "ref_id" "ref_id" 772 263 1 440 775 false .none gr,
 FC (st 45) "ref_octets" "ref_octets" 778 267 2 445 783 true .none gr,
 FC (me 46 0) "__init__" "PackedRef.__init__" 798 273 4 460 805 true (.ref 459) gr,
 FC (me 46 1) "octets" "PackedRef.octets" 808 278 1 467 813 true .none gr,
 FC (st 47) "ref_packed_octets" "ref_packed_octets" 827 283 1 481 833 true .none gr,
 FC (st 48) "ref_packed_row" "ref_packed_row" 836 288 2 488 844 true .none gr,
 FC (st 49) "read_packed" "read_packed" 847 297 2 496 850 false (.ref 495) gr,
 FC (me 50 0) "__init__" "RefChange.__init__" 866 320 7 509 876 true (.ref 508) gr,
 FC (me 51 0) "__init__" "RefReader.__init__" 905 329 4 530 912 true .none gr,
 FC (me 51 1) "path_of" "RefReader.path_of" 915 334 2 537 921 true .none gr,
 FC (me 51 2) "packed" "RefReader.packed" 924 338 1 544 929 true .none gr,
 FC (me 51 3) "packed_row" "RefReader.packed_row" 932 344 2 551 938 true .none gr,
 FC (me 51 4) "loose" "RefReader.loose" 941 350 2 558 951 true .none gr,
 FC (me 51 5) "raw" "RefReader.raw" 954 366 2 565 961 true .none gr,
 FC (me 51 6) "chain" "RefReader.chain" 964 376 2 572 973 true .none gr,
 FC (me 51 7) "resolve" "RefReader.resolve" 976 388 2 579 983 true .none gr,
 FC (me 51 8) "id_of" "RefReader.id_of" 986 392 2 586 991 true .none gr,
 FC (me 51 9) "way_of" "RefReader.way_of" 994 395 2 593 1000 true .none gr,
 FC (me 51 10) "has" "RefReader.has" 1003 403 2 600 1008 true .none gr,
 FC (me 51 11) "loose_names" "RefReader.loose_names" 1011 408 1 607 1019 true .none gr,
 FC (me 51 12) "names" "RefReader.names" 1022 418 2 615 1025 false (.ref 614) gr,
 FC (me 51 13) "peeled" "RefReader.peeled" 1028 426 2 620 1034 true .none gr,
 FC (me 51 14) "short_name" "RefReader.short_name" 1037 432 2 627 1040 false .none gr,
 FC (me 52 0) "__init__" "RefStore.__init__" 1066 443 5 647 1074 true (.ref 646) gr,
 FC (me 52 1) "apply" "RefStore.apply" 1077 447 3 655 1084 true (.ref 654) gr,
 FC (me 52 2) "set_symbolic" "RefStore.set_symbolic" 1088 454 5 663 1096 true (.ref 662) gr,
 FC (me 52 3) "pack" "RefStore.pack" 1099 457 3 671 1102 false (.ref 670) gr,
 FC (me 52 4) "prune_loose" "RefStore.prune_loose" 1105 481 3 676 1112 true .none gr,
 FC (st 53) "ref_take" "ref_take" 1123 487 1 688 1128 true .none gr,
 FC (me 54 0) "__init__" "RefPlan.__init__" 1143 496 4 702 1150 true .none gr,
 FC (me 54 1) "does_go" "RefPlan.does_go" 1153 504 2 709 1158 true .none gr,
 FC (me 54 2) "does_write" "RefPlan.does_write" 1161 507 2 716 1166 true .none gr,
 FC (me 55 0) "__init__" "RefTransaction.__init__" 1195 511 3 737 1201 true .none gr,
 FC (me 55 1) "planned" "RefTransaction.planned" 1204 518 2 744 1211 true .none gr,
 FC (me 55 2) "check_names" "RefTransaction.check_names" 1214 529 1 751 1217 false .none gr,
 FC (me 55 3) "take" "RefTransaction.take" 1220 549 3 756 1228 true .none gr,
 FC (me 55 4) "check_value" "RefTransaction.check_value" 1231 557 2 763 1240 true .none gr,
 FC (me 55 5) "put_value" "RefTransaction.put_value" 1243 572 2 770 1248 true .none gr,
 FC (me 55 6) "rows_left" "RefTransaction.rows_left" 1251 580 1 777 1260 true .none gr,
 FC (me 55 7) "prepare" "RefTransaction.prepare" 1263 593 1 784 1266 false .none gr,
 FC (me 55 8) "commit" "RefTransaction.commit" 1269 612 1 789 1278 true .none gr,
 FC (me 55 9) "abort" "RefTransaction.abort" 1281 634 1 796 1286 true .none gr,
 FC (me 55 10) "names_to_log" "RefTransaction.names_to_log" 1289 639 2 803 1292 false .none gr,
 FC (me 55 11) "put_logs" "RefTransaction.put_logs" 1295 646 2 808 1305 true .none gr,
 FC (st 56) "ref_by_name" "ref_by_name" 1321 657 1 822 1329 true .none gr,
 FC (st 58) "_law_deck" "_law_deck" 1334 666 1 829 1337 false .none (.str "law_nt0310_03" 1332),
 FC (st 59) "_law_draw" "_law_draw" 1340 671 2 834 1347 true .none (.str "law_nt0310_03" 1332),
 FC (st 60) "_law_pick" "_law_pick" 1350 683 2 841 1355 true .none (.str "law_nt0310_03" 1332),
 FC (st 61) "_law_oid" "_law_oid" 1358 685 1 848 1362 true .none (.str "law_nt0310_03" 1332),
 FC (st 62) "_law_pool" "_law_pool" 1365 687 0 855 1369 true .none (.str "law_nt0310_03" 1332),
 FC (st 63) "_law_six" "_law_six" 1372 690 1 862 1375 false .none (.str "law_nt0310_03" 1332),
 FC (st 64) "_law_short" "_law_short" 1378 692 2 867 1381 false .none (.str "law_nt0310_03" 1332),
 FC (st 65) "_law_short_right" "_law_short_right" 1384 703 3 872 1387 false .none (.str "law_nt0310_03" 1332),
 FC (st 66) "_law_octets" "_law_octets" 1390 710 1 877 1393 false .none (.str "law_nt0310_03" 1332),
 FC (st 67) "_law_end" "_law_end" 1396 712 2 882 1402 true .none (.str "law_nt0310_03" 1332),
 FC (st 68) "_law_told" "_law_told" 1405 719 2 889 1414 true .none (.str "law_nt0310_03" 1332),
 FC (st 69) "_law_way_right" "_law_way_right" 1417 726 2 896 1420 false .none (.str "law_nt0310_03" 1332),
 FC (st 70) "law" "law" 1423 756 1 901 1434 true .none (.str "law_nt0310_03" 1332)]
noncomputable def K (P:Params):List (Nat×Obj):=(1,boot_o_1 P)::(868,⟨.none,none,.fields #[],#[]⟩)::K0 P
def Gh:List Addr:=(K {strHash:=λO=>0,shareClass:=λO=>0,mergeTok:=id,idOf:=λO=>0,idOfShared:=λO O=>0,followText:=λO=>false,idOfImm:=λO=>0}).map (·.1)
theorem OH:∀P,Gh=(K P).map (·.1):=λO=>by kernel_rfl
noncomputable def Gi:Stmt:=st 70
def qv:Program:={pw with main:={pw.main with body:=[Gi]}}
def qr:List Str:=pw.boundNames.filter λn=>n !="law"
noncomputable def Bu (s:Shared):List (Option Obj):=Gh.map s.heap.get?
def Bv (w:World):List (Option Obj):=(K w.params).map λp=>some p.2
def oZ:Hook:=⟨List (Option Obj),Bu,Bv,InK K,λw s e=>InK.of OH w s e,λw h a x k=>InK.keeps w h a x k⟩
def lC:Env:={scope:=pw.main.scope,locals:=mainNs,globals:=mainNs,cells:=[],code:=.ref 13,frame:=some 14}
noncomputable def oA (P:Params):List Obj:=[boot_o_0 P,boot_o_1 P,boot_o_2 P,boot_o_3 P,boot_o_4 P,boot_o_5 P,boot_o_6 P,boot_o_7 P,boot_o_8 P,boot_o_9 P,boot_o_10 P,
 ⟨(.type "tuple"),none,(.seq #[] 0),#[]⟩,⟨.none,none,(.fields #[]),#[]⟩,
 ⟨(.type "code"),none,(.fields #[(.str "<module>" 182),(.str "<module>" 183),(.str "/claim/cut.py" 184),(.int 1 0),(.int 0 0),(.int 0 0),(.int 0 0),(.int 0 0),(.ref 11),(.bool false),(.int 181 0),(.ref 12),.none,.none,.none,.none,(.int 185 0),(.int 1 0),(.str "/claim/cut.py" 186)]),#[]⟩,
 ⟨(.type "frame"),none,.plain,#[(some (.ref 13)),(some (.ref 3)),(some (.ref 3)),none,(some (.str "__main__" 164)),none,(some (.ref 0))]⟩]
noncomputable def OI (l:List Obj):BT:=(l.zipIdx).foldl (λt x=>t.ins x.2 x.1) .nil
noncomputable def OJ:Life:=(boot_heap {strHash:=λO=>0,shareClass:=λO=>0,mergeTok:=id,idOf:=λO=>0,idOfShared:=λO O=>0,followText:=λO=>false,idOfImm:=λO=>0}).life
def sT (w:World) (os:OsState):SharedT:=⟨OI (oA w.params),15,OJ,#[],boot_drawn,187,os⟩
noncomputable def mI:Pos:=⟨0,0,0,0⟩
def body:List Stmt:=behindTheImports pw
theorem OK:∀w os,segRun treeTable pw w 11 (some (.ref 6)) 1 1 (sT w os).abs (blockOf body lC (.body body lC) mI [topFrame mI])=some (.next,(sT w os).abs,.body body lC,mI):=λw os=>by kernel_rfl
def Gj (w:World) (r:Option (Flow×SharedT×Code×Pos)):=r.map λx=>(x.1,x.2.2.1,
 (staticsOk (importedModules pw.main.body) (boot_heap w.params) x.2.1.abs.heap&&namesBound pw x.2.1.abs.heap&&gensDone x.2.1.abs&&laidKept (boot_heap w.params) x.2.1.abs.heap),
 PySem.W.Fast.tw4187177175401517315 qv qr (importedModules pw.main.body) (λO=>true) true x.2.1.abs,Bu x.2.1.abs)
theorem OL:∀w os,Gj w (PySem.W.Fast.tw10110043849684766642 PySem.W.Fast.tw14364793385576792824 pw w 11 (some (.ref 6)) 1 6700 (sT w os) (piecesOf body lC (.body body lC) mI [topFrame mI]))=
  some (.next,.body body lC,true,openGood qv qr,Bv w):=λw os=>by kernel_rfl
theorem OM (w:World)(os:OsState):∃a b,segRunT treeTable pw w 11 (some (.ref 6)) 1 6700 (sT w os) (piecesOf body lC (.body body lC) mI [topFrame mI])=some (.next,a,.body body lC,b)/\
  (staticsOk (importedModules pw.main.body) (boot_heap w.params) a.abs.heap&&namesBound pw a.abs.heap&&gensDone a.abs&&laidKept (boot_heap w.params) a.abs.heap)=true/\
  openSeen qv qr (importedModules pw.main.body) (λO=>true) true a.abs=openGood qv qr/\Bu a.abs=Bv w:=by
 have h:=OL w os;rw[←PySem.W.Fast.te10110043849684766642,←PySem.W.Fast.te14364793385576792824] at h;unfold Gj at h;rw[←PySem.W.Fast.te4187177175401517315] at h;refine ai (Option.map_eq_some_iff.mp h) λi e d=>?_;obtain⟨f,a,c,b⟩:=i;obtain⟨rfl,rfl,e1,e2,g⟩:f=.next/\c=.body body lC/\_/\_/\_:=by simpa only[Prod.mk.injEq] using d
 exact⟨a,b,e,e1,e2,g⟩
theorem ON:opening pw=plainProg pw.main.scope.names:=by kernel_rfl
theorem OO (s:Shared):fenceModules? pw s=some s:=by kernel_rfl
theorem OP:∀w:World,((boot_heap w.params).isNs mainGlobals&&(#[]:Array GenState).size==0,(boot_heap w.params).objs.size,(boot_heap w.params).nsMap mainGlobals "__annotations__")=(true,11,some (.ref 6)):=λw=>by kernel_rfl
theorem left:LeftO pw qv qr (λO=>true) oZ.obs oZ.val 14000:=
 OE (boot_open ON rfl OO) OP (M:=12+(1+(6700+2)))
  (λw os=>by refine lA (OM w os) λb c e e1 e2 a=>?_;exact⟨b.abs,OG (b:=body) (env:=lC) (fq:=mI) (posA:=mI) (posB:=mI) (sB:=sT w os) ((by kernel_rfl)) (OK w os) e,e1,e2,a⟩) rfl
end Mine.Internal
end
noncomputable section
open PySem PySem.W PySem.Calls PyProof.Rows
namespace Mine.Internal
end Mine.Internal
end
noncomputable section
open PySem PySem.W PySem.Calls PyProof.Rows
namespace Mine.Internal
noncomputable abbrev Bw:RowW:=PySem.Challenge.rw_nt0310_03.row.toRowW
def Gk:DefRec:=match Gi with
 |.FunctionDef name args body _ _ _ scope _ _ a=>⟨name,args,body,scope,a⟩
 |_=>⟨"",⟨[],[],none,[],[],none,[]⟩,[],default,default⟩
theorem head (yi:WalkO qv qr (λO O=>True) oZ.says Bw Gk [] λf a=>PySem.call f a):PySem.Challenge.rw_nt0310_03.Holds:=
 holds_law ((congrFun PySem.W.Fast.te9446332074065402090 PySem.Challenge.rw_nt0310_03).trans (by kernel_rfl)) λrs=>holds_open (q:=qv) (loose:=qr) (Xt:=λO=>true) (XP:=λO O=>True) (Yf:=oZ.obs) (Ya:=oZ.val) (YP:=oZ.says) (d:=Gk) (kwd:=[]) (N:=14000)
  left (Hook.of oZ) (Hook.keeps oZ) (λO O=>trivial) (λO O O O O=>trivial) (by kernel_rfl) (by kernel_rfl) (by kernel_rfl) (λs O=>recFacts_of (s:=s) (by kernel_rfl)) (by kernel_rfl) rs (by kernel_rfl) ⟨rfl,rfl,rfl,rfl,rfl,by decide+kernel⟩
  ⟨[.list []],by decide+kernel,by decide+kernel⟩ yi
end Mine.Internal
end
noncomputable section
open PySem PySem.W PySem.Calls PyProof.Rows PySem.SeqAt
namespace Mine.Internal
def ae:=@PySem.wpAny_bind
def aW:=@List.length_map
def aw:=@Nat.le_trans
def bo:=@Option.some.inj
def aU:=@PySem.wpAny_pure
def bP:=@List.mem_cons_self
def bI:=@List.all_eq_true
def bR:=@List.length_append
def cn:=@List.mem_cons_of_mem
def cf:=@of_decide_eq_true
def cR:=@PySem.Heap.get?_push_of_some
def bJ:=@List.mem_map
def bG:=@beq_iff_eq
def cF:=@List.map_append
def aG:=@if_pos
def aH:=@if_neg
def bM:=@PySem.wpAny_mono
def br:=@congrArg
def dz:=@Bool.false_ne_true
def eA:=@beq_eq_false_iff_ne
def cG:=@PySem.wpAny_of_eq
def eK:=@PySem.Heap.get?_push_size
def c3:=@List.map_cons
def cI:=@Nat.zero_le
def ei:=@List.size_toArray
def fW:=@Option.map_eq_some_iff
def cV:=@List.map_map
def d0:=@List.lookup_cons
def eR:=@List.mem_singleton
def cY:=@PySem.W.typeIs_bytes
def fX:=@List.mem_append_right
def ej:=@beq_self_eq_true
def dm:=@PySem.wpAny_holding
def fY:=@PySem.Heap.get?_none_of_le
def eZ:=@List.getElem?_map
def e6:=@List.append_assoc
def eB:=@List.append_nil
def fH:=@Int.natCast_nonneg
def e8:=@List.length_cons
def d4:=@List.mem_cons
def gF:=@List.map_congr_left
def gG:=@Nat.lt_of_le_of_lt
def fZ:=@Nat.succ_le_succ
def dE:=@Nat.le_refl
def gn:=@Nat.le_add_right
def i6:=@List.contains_iff_mem
def kH:=@List.getElem?_eq_some_iff
def f3:=@decide_eq_true
def gH:=@List.nil_append
def lD:=@List.getElem?_eq_none_iff
def jP:=@List.getElem?_toArray
def g9:=@List.nodup_cons
def hG:=@List.mem_append
def jQ:=@Nat.add_le_add_left
def f5:=@Int.ofNat_lt
def iM:=@decide_eq_false
def lE:=@PySem.Heap.get?_update_other
def ik:=@List.mem_range
def mJ:=@List.length_filter_le
def il:=@PySem.wpAny_standAt
def lF:=@Array.length_toList
def o3:=@List.getD_eq_getElem?_getD
def kI:=@List.nodup_append
def kJ:=@List.length_range
def lG:=@Nat.lt_of_lt_of_le
def ip:=@Nat.le_of_lt
def kK:=@PySem.wpAny_truthy_bool
def kL:=@List.filter_cons
def mK:=@List.filterMap_cons
def lH:=@Nat.le_succ_of_le
def gq:=@PySem.call_gives
def n4:=@Nat.add_le_add_right
def i7:=@Int.ofNat_le
def iq:=@PySem.bm_if_false
def ju:=@Nat.le_of_eq
def kM:=@List.any_cons
def o4:=@List.length_reverse
def mL:=@List.find?_cons
def mM:=@Bool.eq_iff_iff
def o5:=@PySem.Heap.SameBut.update
def n5:=@Nat.lt_succ_self
def kO:=@Nat.ne_of_lt
def rW:=@List.getElem?_eq_getElem
def qt:=@PySem.builtinLookup_eq_fast
def qu:=@Bool.and_eq_true_iff
def n6:=@PySem.wpAny_Call_NameR
def rX:=@List.lookup_eq_none_iff
def jv:=@Int.not_lt
def jR:=@PySem.sizeLine_eq
def lI:=@Nat.zero_add
def rY:=@List.dropWhile_sublist
def lJ:=@Int.le_trans
def lK:=@Int.le_of_lt
def mN:=@Nat.add_assoc
def rZ:=@Array.getElem?_toList
def o6:=@List.length_set
def jS:=@PySem.typeIs_str
def r8:=@List.mem_append_left
def uF:=@Option.isSome_iff_exists
def qw:=@PySem.wpAny_newObj_type
def lL:=@PySem.wpAny_field
def o7:=@List.nodup_nil
def uG:=@List.lookup_eq_some_iff
def uH:=@List.length_eq_zero_iff
def uI:=@Int.eq_ofNat_of_zero_le
def r9:=@List.flatMap_cons
def qx:=@PySem.typeLookup_type
def qy:=@Nat.add_le_add
def uJ:=@List.mem_of_getElem?
def uK:=@PySem.Heap.get?_update_self
def sa:=@Option.bind_some
def o8:=@Nat.add_comm
def sd:=@List.cons_ne_nil
def mO:=@PySem.wpAny_rule
def qz:=@PySem.isSubtype_type
def qA:=@List.sum_cons
def se:=@List.mem_filter
def o9:=@PySem.Heap.lt_size
def uL:=@List.lookup_append
def yj:=@PySem.wpAny_assignInOrder_none
def yk:=@PySem.wpAny_assignInOrder_more
def uM:=@PySem.W.FB.plainAttrs_bytes
def yl:=@Option.map_eq_none_iff
def jT:=@Ne.symm
def uN:=@Nat.lt_succ_of_le
def qB:=@Int.toNat_le
def sf:=@PySem.wpAny_specialOf
def n7:=@PySem.wpAny_call
def n8:=@PySem.call_meets
def qC:=@PySem.W.KBy.buffer_eq
def ym:=@List.eq_nil_or_concat
def yn:=@List.concat_eq_append
def uO:=@List.isEmpty_iff
def uQ:=@List.any_eq_true
def uR:=@Bool.not_eq_true
def sg:=@PySem.wpAny_loadPart
def uS:=@PySem.wpAny_assign_Name
def qD:=@Nat.le_succ
def uT:=@List.foldl_cons
def yo:=@PySem.wpAny_storeName_local
def yp:=@Nat.add_lt_add_left
def yq:=@Int.toNat_of_nonneg
def uU:=@PySem.F.plainAttrs_str
def yr:=@PySem.W.FB.slot_bytes_getitem
def yt:=@of_decide_eq_false
def yu:=@PySem.wpAny_loadName_local
def yv:=@PySem.lookup_relabel_local
def yw:=@PySem.F.sub_NoneType_bytes
def yx:=@PySem.F.slot_tuple_getitem
def Bx:=@List.getElem?_append_right
def By:=@Array.perm_iff_toList_perm
def uV:=@PySem.wpAny_execs_nil
def yy:=@PySem.builtinType_eq_fast
def yz:=@Nat.le_of_lt_succ
def sh:=@List.map_id
def yA:=@List.getElem?_inj
def uW:=@Bool.true_and
def Bz:=@Array.size_setIfInBounds
def BA:=@Option.bind_eq_some_iff
def BB:=@List.pairwise_singleton
def yB:=@List.length_drop
def uX:=@PySem.W.FB.owner_bytes
def yC:=@PySem.W.FB.args_bytes_ne_2
def yD:=@PySem.W.FB.args_bytes_eq_2
def BC:=@List.take_of_length_le
def BD:=@List.filter_eq_nil_iff
def BE:=@List.drop_eq_nil_of_le
def yE:=@List.length_nil
def uY:=@PySem.wpAny_newList
def uZ:=@PySem.wpAny_attempt
def u7:=@PySem.signature?_of
def u9:=@PySem.callWith_type
set_option genCtorIdx true
abbrev Bs:=List Nat
structure At where
 i:Fin 29
 deriving DecidableEq
namespace At
noncomputable def aq (i:Fin 29):At:=⟨i⟩
def dp:At:=aq 0
def left:At:=aq 1
def fa:At:=aq 2
def below:At:=aq 3
def eC:At:=aq 4
def jU:At:=aq 5
def pd:At:=aq 6
def n9:At:=aq 7
def name:At:=aq 8
def cC:At:=aq 9
def lM:At:=aq 10
def new:At:=aq 11
def hH:At:=aq 12
def qE:At:=aq 13
def BF:At:=aq 14
def yF:At:=aq 15
def kP:At:=aq 16
def size:At:=aq 17
def yG:At:=aq 18
def change:At:=aq 19
def du:At:=aq 20
def ve:At:=aq 21
def b9:At:=aq 22
def jw:At:=aq 23
def iN:At:=aq 24
def yH:At:=aq 25
def lN:At:=aq 26
def fm:At:=aq 27
def pe:At:=aq 28
end At
structure Cl where
 i:Fin 16
 deriving DecidableEq
namespace Cl
noncomputable def aq (i:Fin 16):Cl:=⟨i⟩
def pf:Cl:=aq 0
def mP:Cl:=aq 1
def i8:Cl:=aq 2
def vh:Cl:=aq 3
def Gm:Cl:=aq 4
def vj:Cl:=aq 5
def Gn:Cl:=aq 6
def jx:Cl:=aq 7
def i9:Cl:=aq 8
def oa:Cl:=aq 9
def vk:Cl:=aq 10
def ir:Cl:=aq 11
def OQ:Cl:=aq 12
def si:Cl:=aq 13
def pg:Cl:=aq 14
def vl:Cl:=aq 15
end Cl
noncomputable def At.str (a:At):Str:=(["told","left","files","below","disk","path","lock_path","is_held","name","oid","peeled","new","old","is_symbolic","message","deref","folder","size","logs","change","via","before","after","lock","store","changes","plans","taken","packed_lock"]:List Str).getD a.i.val ""
inductive PV
 |none
 |bool (b:Bool)
 |int (i:Int)
 |str (l:Bs)
 |bytes (l:Bs)
 |ref (a:Addr)
 |av (l:List PV)
inductive bS
 |list (a:List PV)
 |dict (b:Nat) (d:List (PV×PV))
 |bc (c:Cl) (e:List (At×PV))
 |raw (o:Obj)
 |ro (o:Obj) (a:List PV)
abbrev AH:=Addr->Option bS
noncomputable def AH.set (Y:AH)(a:Addr)(o:bS):AH:=λb=>if b=a then some o else Y b
@[simp] theorem AH.a9 (Y:AH) (a:Addr) (o:bS):Y.set a o a=some o:=by simp[AH.set]
theorem AH.cJ (Y:AH)(o:bS)(h:b≠a):Y.set a o b=Y b:=by simp[AH.set,h]
mutual
inductive ag (h:Heap):Value->PV->Prop
 |none:ag h .none .none
 |bool (b:Bool):ag h (.bool b) (.bool b)
 |int (i:Int) (t:Tok):ag h (.int i t) (.int i)
 |str (x:Str) (t:Tok) {l:Bs} (e:x.cps.toList=l):ag h (.str x t) (.str l)
 |bytes (b:Array UInt8) (t:Tok) {l:Bs} (e:b.toList.map UInt8.toNat=l):ag h (.bytes b t) (.bytes l)
 |ref (a:Addr):ag h (.ref a) (.ref a)
 |av {a:Addr} {vs:List Value} {c:List PV} (f:IsTup h a vs.toArray) (d:aJ h vs c):ag h (.ref a) (.av c)
inductive aJ (h:Heap):List Value->List PV->Prop
 |nil:aJ h [] []
 |cons {v:Value} {p:PV} {b:List Value} {a:List PV} (d:ag h v p) (c:aJ h b a):aJ h (v::b) (p::a)
end
theorem nn {P:Prop}(b:o=none)(c:o=some a):P:=(by injection (b.symm.trans c))
theorem ss (c:o=some a)(d:o=some b):a=b:=Option.some.inj (c.symm.trans d)
theorem c0 (h:o=some a):o≠none:=λz=>nn z h
theorem gu (k:∀a,o=some a->p=none->False)(e:p=none):o=none:=by
 cases q:o with
 |none=>rfl
 |some a=>exact(k a q e).elim
theorem yI {v:Value}{P:Prop}(c:v=.type a)(d:v=.type b)(n:(a==b)=false):P:=((beq_eq_false_iff_ne.mp n) (Value.type.inj (c.symm.trans d))).elim
abbrev cb (h c:Heap):Prop:=∀a b,IsTup h a b->IsTup c a b
abbrev fp (h a:Heap):Prop:=∀b o,h.get? b=some o->a.get? b=some o
theorem ag.bU (k:cb h c)(r:ag h v p):ag c v p:=
 ag.rec (motive_1:=λv p O=>ag c v p) (motive_2:=λi g O=>aJ c i g) .none .bool .int (λx t O e=>.str x t e) (λx t O e=>.bytes x t e) .ref (λf O d=>.av (k _ _ f) d) .nil (λO O a b=>.cons a b) r
theorem aJ.bU (k:cb h c)(r:aJ h f d):aJ c f d:=
 aJ.rec (motive_1:=λv p O=>ag c v p) (motive_2:=λf d O=>aJ c f d) .none .bool .int (λx t O e=>.str x t e) (λx t O e=>.bytes x t e) .ref (λi O g=>.av (k _ _ i) g) .nil (λO O a b=>.cons a b) r
theorem aJ.ph {C:List Value->List PV->Prop}(n:C [] [])(c:∀{v p f e},ag h v p->aJ h f e->C f e->C (v::f) (p::e))(r:aJ h f e):C f e:=
 aJ.rec (motive_1:=λO O O=>True) (motive_2:=λf e O=>C f e) trivial (λO=>trivial) (λO O=>trivial) (λO O O O=>trivial) (λO O O O=>trivial) (λO=>trivial) (λO O O=>trivial) n (λa b O d=>c a b d) r
theorem aJ.length {a:List Value}(r:aJ h a b):a.length=b.length:=r.ph (C:=λa b=>a.length=b.length) rfl λO O e=>congrArg (·+1) e
theorem aJ.append {b ws:List Value}(r:aJ h b c)(k:aJ h ws qs):aJ h (b++ws) (c++qs):=r.ph (C:=λb c=>aJ h (b++ws) (c++qs)) k λa O d=>.cons a d
inductive Gp (h:Heap)(a:List Value)(i:Nat)(p:PV):Prop
 |mk (v:Value) (e:a[i]? =some v) (r:ag h v p)
theorem aJ.get {b:List Value}{i:Nat}(r:aJ h b c)(e:c[i]? =some p):Gp h b i p:=
 r.ph (C:=λb c=>∀i,c[i]? =some p->Gp h b i p) (λO e=>nn rfl e) (λ{v _ _ _} a O d i=>Nat.casesOn i (λe=>⟨v,rfl,bo e▸a⟩) λi e=>(by obtain⟨w,f,g⟩:=d i e;exact⟨w,f,g⟩)) i e
theorem aJ.take {b:List Value}(n:Nat)(r:aJ h b c):aJ h (b.take n) (c.take n):=
 r.ph (C:=λb c=>∀n,aJ h (b.take n) (c.take n)) (λn=>B List.take_nil (B List.take_nil (.nil))) (λa O d n=>Nat.casesOn n .nil λn=>.cons a (d n)) n
theorem aJ.drop {c:List Value}(n:Nat)(r:aJ h c e):aJ h (c.drop n) (e.drop n):=
 r.ph (C:=λc e=>∀n,aJ h (c.drop n) (e.drop n)) (λn=>B List.drop_nil (B List.drop_nil (.nil))) (λa b d n=>Nat.casesOn n (.cons a b) λn=>d n) n
theorem aJ.reverse {b:List Value}(r:aJ h b c):aJ h b.reverse c.reverse:=
 r.ph (C:=λb c=>aJ h b.reverse c.reverse) .nil λa O d=>B List.reverse_cons (B List.reverse_cons (d.append (.cons a .nil)))
def iO (h:Heap):Option Value->Option PV->Prop
 |none,none=>True
 |some v,some p=>ag h v p
 |_,_=>False
theorem iO.bU (k:cb h a)(r:iO h v p):iO a v p:=by
 cases v with
 |none=>cases p<;>exact r
 |some v=>cases p with
  |none=>exact r
  |some p=>exact ag.bU k r
inductive cK {b:Type}(a:b->PV->Prop)(h:Heap):List (b×Value)->List (PV×PV)->Prop
 |nil:cK a h [] []
 |cons {k:b} {v:Value} {p q:PV} {r:List (b×Value)} {s:List (PV×PV)} (c:a k p) (e:ag h v q) (d:cK a h r s):cK a h ((k,v)::r) ((p,q)::s)
theorem cK.bU (k:cb h c)(x:cK e h r s):cK e c r s:=
 cK.rec (motive:=λr s O=>cK e c r s) .nil (λa b O d=>.cons a (ag.bU k b) d) x
theorem cK.length (x:cK a h r s):r.length=s.length:=
 cK.rec (motive:=λr s O=>r.length=s.length) rfl (λO O O d=>br (·+1) d) x
def mQ (x:Str) (p:PV):Prop:=p=.str x.cps.toList
def sj (b:List UInt8) (p:PV):Prop:=p=.bytes (b.map UInt8.toNat)
inductive ft (P:Params)(h:Heap):List DictEntry->List (At×PV)->Prop
 |nil:ft P h [] []
 |cons {t:Tok} {v:Value} {a:At} {q:PV} {r:List DictEntry} {s:List (At×PV)} (c:ag h v q) (b:ft P h r s):ft P h (⟨PyData.keyHash P a.str,.str a.str t,v⟩::r) ((a,q)::s)
theorem ft.bU (k:cb h a)(x:ft P h r s):ft P a r s:=
 ft.rec (motive:=λr s O=>ft P a r s) .nil (λb O d=>.cons (ag.bU k b) d) x
inductive OR (h:Heap)(b:List Value)(p:PV)(a:List PV):Prop
 |mk (v:Value) (r:List Value) (e:b=v::r) (d:ag h v p) (c:aJ h r a)
theorem aJ.un {h:Heap}{b:List Value}{p:PV}{a:List PV}(r:aJ h b (p::a)):OR h b p a:=by cases r with|cons d c=>exact⟨_,_,rfl,d,c⟩
theorem aJ.vm {h:Heap}{a:List Value}(r:aJ h a []):a=[]:=by cases r;rfl
inductive OS (h:Heap)(v:Value)(b:List PV):Prop
 |mk (t:Addr) (a:List Value) (e:v=.ref t) (d:IsTup h t a.toArray) (c:aJ h a b)
theorem ag.un {h:Heap}{v:Value}{a:List PV}(r:ag h v (.av a)):OS h v a:=by cases r with|av c b=>exact⟨_,_,rfl,c,b⟩
inductive aex (i:Int)(v:Value):Prop
 |mk (t:Tok) (e:v=.int i t)
theorem ag.OT {h:Heap}{v:Value}{a:Addr}(r:ag h v (.ref a)):v=.ref a:=by cases r;rfl
theorem aJ.OU {h:Heap}{b:List Value}{a:Addr}(r:aJ h b [.ref a]):b=[.ref a]:=by obtain⟨v,w,q,d,c⟩:=r.un;exact B q (B c.vm (B d.OT rfl))
section
variable {a b c j k m n:Nat}
theorem mR (h:n<=k)(e:a+k<=b):a+n<=b:=Nat.le_trans (Nat.add_le_add_left h a) e
theorem oe (h:n<=k)(e:a+k+c<=b):a+n+c<=b:=Nat.le_trans (Nat.add_le_add_right (Nat.add_le_add_left h a) c) e
theorem sq (h:n<=k)(e:a*k<=b):a*n<=b:=Nat.le_trans (Nat.mul_le_mul_left a h) e
theorem Gq (h:n<=k)(e:a*k+c<=b):a*n+c<=b:=Nat.le_trans (Nat.add_le_add_right (Nat.mul_le_mul_left a h) c) e
theorem Gr (h:m<=j)(i:n<=k)(e:j+k<=b):m+n<=b:=Nat.le_trans (Nat.add_le_add h i) e
theorem OV (h:m<=j)(i:n<=k)(e:a+j+k<=b):a+m+n<=b:=Gr (mR h (Nat.le_refl _)) i e
theorem vo (h:n+c<=k)(e:k<=b):n<=b:=Nat.le_trans (Nat.le_trans (Nat.le_add_right n c) h) e
theorem OW (h:n+c<=k)(e:k<b):n<b:=Nat.lt_of_le_of_lt (Nat.le_trans (Nat.le_add_right n c) h) e
theorem sr (h:n+(m+1)<=b):n+1+m<=b:=by rw[Nat.add_assoc,Nat.add_comm 1];exact h
theorem vu (h:n<=k)(e:k<=1000000): -1000000<=(n:Int)/\(n:Int)<=1000000:=⟨Int.le_trans dc (Int.natCast_nonneg n),Int.ofNat_le.mpr (Nat.le_trans h e)⟩
theorem Gs (h:n<=k)(e:k+1<=1000000): -1000000<=(n:Int)+1/\(n:Int)+1<=1000000:=vu (n:=n+1) (Nat.succ_le_succ h) e
theorem pj {d w h:Nat}(a:d+c*h+k<=b)(l:n<h)(e:w<=c):d+w+c*n+k<=b:=by rw[mN d];refine aw (n4 (jQ (aw (n4 e _) ?_) d) k) a;rw[o8,←Nat.mul_succ];exact Nat.mul_le_mul_left c l
theorem OX (h:n<=k)(e:k<=1000000000): -1000000000<=(n:Int)/\(n:Int)<=1000000000:=⟨Int.le_trans dc (Int.natCast_nonneg n),Int.ofNat_le.mpr (Nat.le_trans h e)⟩
theorem OY (h:n+c+1<=b):n+1<=b:=Nat.le_trans (Nat.succ_le_succ (Nat.le_add_right n c)) h
theorem OZ (h:1<=n):1<=m+n:=Nat.le_trans h (Nat.le_add_left n m)
theorem O0 (h:0<n):1<=n+m:=Nat.le_trans h (Nat.le_add_right n m)
theorem Gu (h:n+c<=k)(i:k<a)(e:a<=b):n<=b:=Nat.le_trans (Nat.le_trans (Nat.le_add_right n c) h) (Nat.le_trans (Nat.le_of_lt i) e)
theorem Gw (h:m<=n*k)(i:n<=j)(e:a+j*k<=b):a+m<=b:=Nat.le_trans (Nat.add_le_add_left (Nat.le_trans h (Nat.mul_le_mul_right k i)) a) e
end
@[elab_as_elim] theorem fu {b:Sort _} {motive:b->Prop} (a:b) (k:∀x,a=x->motive x):motive a:=k a rfl
@[elab_as_elim] theorem BG {b:Sort _} {motive:b->Prop} (a:b) (k:∀x,motive x):motive a:=k a
set_option genCtorIdx false
inductive iP|none|bool (b:Bool)|int (i:Int)|str (l:Bs)|bytes (l:Bs)
set_option genCtorIdx true in
inductive hJ|add|sub|mul|fdiv|mod|vw|vx
 deriving DecidableEq
set_option genCtorIdx true in
inductive lO|eq|ne|lt|le|gt|ge|iu|gv|fI|su
 deriving DecidableEq
structure Gl where
 i:Nat
 deriving DecidableEq
namespace Gl
noncomputable def aq (i:Nat):Gl:=⟨i⟩
def O1:Gl:=aq 0
def sv:Gl:=aq 1
def Gx:Gl:=aq 2
def Gy:Gl:=aq 3
def vy:Gl:=aq 4
def yJ:Gl:=aq 5
def Gz:Gl:=aq 6
def GA:Gl:=aq 7
def lP:Gl:=aq 8
def O2:Gl:=aq 9
def vz:Gl:=aq 10
def yK:Gl:=aq 11
def GB:Gl:=aq 12
def O3:Gl:=aq 13
def BH:Gl:=aq 14
end Gl
set_option genCtorIdx true in
inductive Bi|len|mS|pq|bytes|str|sorted|all|any|int|list|tuple|isStr
 deriving DecidableEq
structure Fn where
 i:Nat
 deriving DecidableEq
namespace Fn
noncomputable def aq (i:Nat):Fn:=⟨i⟩
def qF:Fn:=aq 0
def og:Fn:=aq 1
def sx:Fn:=aq 2
def vA:Fn:=aq 3
def yL:Fn:=aq 4
def vB:Fn:=aq 5
def sy:Fn:=aq 6
def vC:Fn:=aq 7
def fe:Fn:=aq 8
def BI:Fn:=aq 9
def yM:Fn:=aq 10
def vD:Fn:=aq 11
def yN:Fn:=aq 12
def BJ:Fn:=aq 13
def BL:Fn:=aq 14
def BM:Fn:=aq 15
def sA:Fn:=aq 16
def yO:Fn:=aq 17
def yP:Fn:=aq 18
def O4:Fn:=aq 19
def BO:Fn:=aq 20
def yQ:Fn:=aq 21
def yR:Fn:=aq 22
def BP:Fn:=aq 23
def BQ:Fn:=aq 24
def BR:Fn:=aq 25
def BS:Fn:=aq 26
def vE:Fn:=aq 27
def BU:Fn:=aq 28
def px:Fn:=aq 29
def mT:Fn:=aq 30
def lQ:Fn:=aq 31
def vF:Fn:=aq 32
def vG:Fn:=aq 33
def O5:Fn:=aq 34
def sC:Fn:=aq 35
def sD:Fn:=aq 36
def sF:Fn:=aq 37
def vH:Fn:=aq 38
def yS:Fn:=aq 39
def yT:Fn:=aq 40
def sG:Fn:=aq 41
def yU:Fn:=aq 42
def BV:Fn:=aq 43
def BW:Fn:=aq 44
def qG:Fn:=aq 45
def O6:Fn:=aq 46
def BX:Fn:=aq 47
def BY:Fn:=aq 48
def BZ:Fn:=aq 49
def B0:Fn:=aq 50
def B1:Fn:=aq 51
def B2:Fn:=aq 52
def B3:Fn:=aq 53
def B4:Fn:=aq 54
def B5:Fn:=aq 55
def B6:Fn:=aq 56
def B7:Fn:=aq 57
def B8:Fn:=aq 58
def O7:Fn:=aq 59
def B9:Fn:=aq 60
def Ca:Fn:=aq 61
def jV:Fn:=aq 62
def Cb:Fn:=aq 63
def Cc:Fn:=aq 64
def Ce:Fn:=aq 65
def yV:Fn:=aq 66
def Cf:Fn:=aq 67
def Cg:Fn:=aq 68
def Ci:Fn:=aq 69
def Cj:Fn:=aq 70
def Cm:Fn:=aq 71
def Cn:Fn:=aq 72
def Co:Fn:=aq 73
def Cp:Fn:=aq 74
def O8:Fn:=aq 75
def Cq:Fn:=aq 76
def Cr:Fn:=aq 77
def O9:Fn:=aq 78
end Fn
noncomputable def Fn.bK (k:Nat):Fn:=⟨79+k⟩
structure bE where
 i:Fin 57
 deriving DecidableEq
namespace bE
noncomputable def aq (i:Fin 57):bE:=⟨i⟩
def Cs:bE:=aq 0
def has:bE:=aq 1
def vI:bE:=aq 2
def yi:bE:=aq 3
def yW:bE:=aq 4
def sH:bE:=aq 5
def yX:bE:=aq 6
def GC:bE:=aq 7
def yY:bE:=aq 8
def Pa:bE:=aq 9
def Ct:bE:=aq 10
def bh:bE:=aq 11
def Cu:bE:=aq 12
def take:bE:=aq 13
def dA:bE:=aq 14
def sI:bE:=aq 15
def drop:bE:=aq 16
def Cv:bE:=aq 17
def GD:bE:=aq 18
def mU:bE:=aq 19
def yZ:bE:=aq 20
def Cw:bE:=aq 21
def loose:bE:=aq 22
def raw:bE:=aq 23
def sJ:bE:=aq 24
def GF:bE:=aq 25
def GG:bE:=aq 26
def Cy:bE:=aq 27
def Cz:bE:=aq 28
def names:bE:=aq 29
def lM:bE:=aq 30
def GH:bE:=aq 31
def apply:bE:=aq 32
def y1:bE:=aq 33
def y2:bE:=aq 34
def GI:bE:=aq 35
def y3:bE:=aq 36
def vJ:bE:=aq 37
def GJ:bE:=aq 38
def GK:bE:=aq 39
def GL:bE:=aq 40
def GN:bE:=aq 41
def GO:bE:=aq 42
def GP:bE:=aq 43
def GQ:bE:=aq 44
def append:bE:=aq 45
def pz:bE:=aq 46
def fJ:bE:=aq 47
def get:bE:=aq 48
def oh:bE:=aq 49
def split:bE:=aq 50
def startswith:bE:=aq 51
def endswith:bE:=aq 52
def find:bE:=aq 53
def mV:bE:=aq 54
def join:bE:=aq 55
def items:bE:=aq 56
end bE
mutual
inductive PE
 |ab (c:iP)|af (i:Nat)|cH (g:Gl)|aj (e:PE) (a:At)|item (e i:PE)|d5 (e lo k st:PE)|no
 |bq (o:hJ) (a b:PE)|neg (e:PE)|dF (e:PE)|bV (l:Bool) (d:da)|aM (o:lO) (a b:PE)|vK (o p:lO) (a b c:PE)|ite (c a b:PE)
 |tuple (d:da)|list (d:da)|dict (h:vL)|c4 (j:PE) (t:Tg) (n cond:PE)
 |call (f:Fn) (d:da)|fv (c:Cl) (d:da)|bi (b:Bi) (d:da)|au (o:PE) (m:bE) (d:da)|range (a b s:PE)|ja (e:PE)|y4 (e:PE)|pA
inductive da|nil|cons (e:PE)(a:da)
inductive vL|nil|cons (k v:PE)(a:vL)
inductive Tg|af (i:Nat)|aj (e:PE)(a:At)|item (e k:PE)|av (b:fK)
inductive fK|nil|cons (t:Tg)(a:fK)
end
mutual
inductive PS
 |assign (t:Tg) (e:PE)|CA (i:Nat) (o:hJ) (e:PE)|CB (b:PE) (a:At) (o:hJ) (e:PE)|y5 (b k:PE) (o:hJ) (e:PE)
 |expr (e:PE)|ret (e:PE)|a7 (c:PE) (a b:cS)|cP (t:Tg) (h:PE) (b:cS)|vM (c:PE) (b:cS)
 |qH (b:cS) (g:vN)|sL (b f:cS)|dw (c:Cl) (d:da)|CD|pA
inductive cS|nil|cons (s:PS)(r:cS)
inductive vN|nil|cons (c:Cl)(v:Option Nat)(b:cS)(r:vN)
end
noncomputable def iP.pv:iP->PV
 |none=>.none|bool b=>.bool b|int i=>.int i|str l=>.str l|bytes l=>.bytes l
inductive Fl|next|brk|cont|ret (p:PV)
noncomputable abbrev aP:=List (Option PV)
noncomputable def aI:Nat:=16000000
def fits (l:Bs):Bool:=decide (l.length<=aI)
noncomputable def hJ.op:hJ->Operator
 |.add=>.Add|.sub=>.Sub|.mul=>.Mult|.fdiv=>.FloorDiv|.mod=>.Mod|.vw=>.RShift|.vx=>.BitAnd
noncomputable def lO.op:lO->CmpOp
 |.eq=>.Eq|.ne=>.NotEq|.lt=>.Lt|.le=>.LtE|.gt=>.Gt|.ge=>.GtE|.iu=>.Is|.gv=>.IsNot|.fI=>.In|.su=>.NotIn
noncomputable def PV.iw (f d:a)(v:PV):a:=match v with|.none=>f|_=>d
noncomputable def PV.hN (f:Bool->a)(d:a)(v:PV):a:=match v with|.bool i=>f i|_=>d
noncomputable def PV.cu (f:Int->a)(d:a)(v:PV):a:=match v with|.int i=>f i|_=>d
noncomputable def PV.d6 (f:Bs->a)(d:a)(v:PV):a:=match v with|.str i=>f i|_=>d
noncomputable def PV.lR (f:Bs->a)(d:a)(v:PV):a:=match v with|.bytes i=>f i|_=>d
noncomputable def PV.d7 (f:Addr->a)(d:a)(v:PV):a:=match v with|.ref i=>f i|_=>d
noncomputable def PV.jW (f:List PV->a)(d:a)(v:PV):a:=match v with|.av i=>f i|_=>d
noncomputable def a8 (f:PV->a)(d:a)(b:List PV):a:=match b with|[]=>d|v::r=>(match r with|[]=>f v|_::_=>d)
def jy (f:PV->PV->a) (d:a) (b:List PV):a:=match b with|[]=>d|v::r=>a8 (f v) d r
noncomputable def zero (f d:b)(a:List PV):b:=match a with|[]=>f|_::_=>d
noncomputable def dq (f:List PV->a)(d:a)(o:Option bS):a:=match o with|some o=>(match o with|.list b=>f b|_=>d)|none=>d
noncomputable def vO (f:List PV->b)(d:b)(o:Option bS):b:=match o with|some o=>(match o with|.list a=>f a|.ro _ a=>f a|_=>d)|none=>d
noncomputable def lS (f:List (PV×PV)->a)(d:a)(o:Option bS):a:=match o with|some o=>(match o with|.dict _ b=>f b|_=>d)|none=>d
noncomputable def hO (f:Cl->List (At×PV)->a)(d:a)(o:Option bS):a:=match o with|some o=>(match o with|.bc c b=>f c b|_=>d)|none=>d
def oi (f:Int->Int->Option PV) (u v:PV):Option PV:=u.cu (λa=>v.cu (f a) none) none
def GR (u v:PV):Option PV:=match u with
 |.int a=>v.cu (λb=>some (.int (a+b))) none
 |.str a=>v.d6 (λb=>if fits (a++b) then some (.str (a++b)) else none) none
 |.bytes a=>v.lR (λb=>if fits (a++b) then some (.bytes (a++b)) else none) none
 |_=>none
noncomputable def vP (o:hJ):PV->PV->Option PV:=match o with
 |.add=>GR
 |.sub=>oi λa b=>some (.int (a-b))
 |.mul=>oi λa b=>if(-(2^64)<a/\a<2^64)∨(-(2^64)<b/\b<2^64) then some (.int (a*b)) else none
 |.fdiv=>oi λa b=>if 0<b/\b<1073741824 then some (.int (a/b)) else none
 |.mod=>oi λa b=>if 0<b then some (.int (a%b)) else none
 |.vw=>oi λa b=>if 0<=a/\b=4 then some (.int (a/16)) else none
 |.vx=>oi λa b=>if 0<=a/\b=15 then some (.int (a%16)) else none
noncomputable def PV.beq:PV->PV->Bool
 |.str a,.str b=>a==b
 |.bytes a,.bytes b=>a==b
 |_,_=>false
noncomputable def sM:List (Option Bool)->Option Bool
 |[]=>some true
 |some b::r=>(sM r).map (b&&·)
 |none::_=>none
noncomputable def vQ (u v:PV):Option Bool:=match u with
 |.none=>(match v with|.none=>some true|.ref _=>none|_=>some false)
 |.bool a=>(match v with|.none=>some false|.bool b=>some (a==b)|_=>none)
 |.int a=>(match v with|.none=>some false|.int b=>some (a==b)|_=>none)
 |.str a=>(match v with|.none=>some false|.str b=>some (a==b)|.bytes _=>some false|.av _=>some false|_=>none)
 |.bytes a=>(match v with|.none=>some false|.str _=>some false|.bytes b=>some (a==b)|_=>none)
 |.av _=>(match v with|.none=>some false|.str _=>some false|_=>none)
 |.ref _=>none
def kQ (rec:PV->PV->Option Bool) (a b:List PV):Option Bool:=(sM (List.zipWith rec a b)).map (·&&a.length==b.length)
def eS (Y:AH):Nat->PV->PV->Option Bool
 |0,u,v=>vQ u v
 |n+1,u,v=>(match u with
   |.av c=>(match v with|.av d=>kQ (eS Y n) c d|_=>vQ u v)
   |.ref a=>v.d7 (λb=>if a=b then none else dq (λc=>dq (λd=>kQ (eS Y n) c d) none (Y b)) none (Y a)) none
   |_=>vQ u v)
def GS (Y:AH) (u v:PV):Option Bool:=match u with
 |.ref a=>v.d7 (λb=>if a=b then none else lS (λc=>lS (λd=>if d.isEmpty then some c.isEmpty else none) none (Y b)) (eS Y 4 u v) (Y a)) none
 |_=>eS Y 4 u v
noncomputable def PV.jb:PV->Bool
 |.str _=>true
 |.bytes _=>true
 |_=>false
noncomputable def PV.CE:PV->Bool
 |.str _=>true
 |_=>false
noncomputable def dr (k:PV)(a:List (PV×PV)):Bool:=a.all λe=>match k,e.1 with
 |.str _,.str _=>true
 |.bytes _,.bytes _=>true
 |_,_=>false
def el (a:List (PV×PV)) (k:PV):Option PV:=(a.find? λe=>PV.beq e.1 k).map (·.2)
def fw (a:List (PV×PV)) (k:PV):Bool:=a.any λe=>PV.beq e.1 k
def fx (a:List (PV×PV)) (k v:PV):List (PV×PV):=if fw a k then a.map (λe=>if PV.beq e.1 k then(e.1,v) else e) else a++[(k,v)]
def pB (a:List (PV×PV)) (k:PV):List (PV×PV):=a.filter λe=>!PV.beq e.1 k
noncomputable def eE (b:List (At×PV))(a:At):Option PV:=b.lookup a
noncomputable def jc:List (At×PV)->At->PV->List (At×PV)
 |[],a,v=>[(a,v)]
 |(b,u)::r,a,v=>if b=a then(b,v)::r else(b,u)::jc r a v
noncomputable def bp (l:Bs):Str:=⟨l.toArray⟩
def sN (a b:Bs):Bool:=!(Builtin.Str.occurrences (bp b) (bp a) 0 b.length 1).isEmpty
noncomputable def pE (f:PV->Option b):List PV->Option (List b)
 |[]=>some []
 |v::r=>(f v).bind λa=>(pE f r).map (a::·)
def vR:List PV->Option (List Int):=pE (PV.cu some none)
def kR:List PV->Option (List Bs):=pE (PV.d6 some none)
def mW:List PV->Option (List Bs):=pE (PV.lR some none)
def vS:List PV->Option (List Bool):=pE (PV.hN some none)
def PV.isNone (u:PV):Bool:=u.iw true false
def Pb (u:PV) (c:List PV):Option Bool:=match u with
 |.str a=>(kR c).map λb=>b.any (·==a)
 |.bytes a=>(mW c).map λb=>b.any (·==a)
 |_=>none
def oj (Y:AH) (u:PV) (b:Addr):Option Bool:=match Y b with
 |some (.dict _ a)=>if u.jb&&dr u a then some (fw a u) else none
 |some (.list c)=>Pb u c
 |_=>none
def oq (Y:AH) (u v:PV):Option Bool:=match v with
 |.str b=>u.d6 (λa=>some (sN a b)) none
 |.bytes b=>u.cu (λa=>if 0<=a/\a<256 then some (b.contains a.toNat) else none) none
 |.ref b=>oj Y u b
 |_=>none
def dG (Y:AH) (o:lO) (u v:PV):Option Bool:=match o with
 |.eq=>GS Y u v
 |.ne=>(eS Y 4 u v).map (!·)
 |.iu=>v.iw (some u.isNone) none
 |.gv=>v.iw (some !u.isNone) none
 |.lt=>u.cu (λa=>v.cu (λb=>some (decide (a<b))) none) none
 |.le=>(match u with|.int a=>v.cu (λb=>some (decide (a<=b))) none|.str a=>v.d6 (λb=>some (decide (a<=b))) none|_=>none)
 |.gt=>u.cu (λa=>v.cu (λb=>some (decide (a>b))) none) none
 |.ge=>u.cu (λa=>v.cu (λb=>some (decide (a≥b))) none) none
 |.fI=>oq Y u v
 |.su=>(oq Y u v).map (!·)
noncomputable def fL (n:Nat)(i:Int):Option Nat:=if -1000000000<=i/\i<=1000000000 then seqIndex? i n else none
def qI (Y:AH) (a:Addr) (k:PV):Option PV:=match Y a with
 |some (.list c)=>k.cu (λi=>(fL c.length i).bind λj=>c[j]?) none
 |some (.dict _ b)=>if k.jb&&dr k b then el b k else none
 |_=>none
def ix (Y:AH) (u i:PV):Option PV:=match u with
 |.av l=>i.cu (λi=>(fL l.length i).bind λk=>l[k]?) none
 |.str l=>i.cu (λi=>(fL l.length i).bind λk=>(l[k]?).map λc=>.str [c]) none
 |.bytes l=>i.cu (λi=>(fL l.length i).bind λk=>(l[k]?).map λ(c:Nat)=>PV.int (Int.ofNat c)) none
 |.ref a=>qI Y a i
 |_=>none
noncomputable def sO:PV->Option (Option Int)
 |.none=>some none
 |.int i=>some (some i)
 |_=>none
noncomputable def bT (l:List b)(lo a:Option Int):List b:=(l.drop (lo.elim 0 (clipAt l.length))).take (a.elim l.length (clipAt l.length)-lo.elim 0 (clipAt l.length))
def kT (l:List d) (lo c:PV):Option (List d):=(sO lo).bind λa=>(sO c).map λb=>bT l a b
noncomputable def sP (x:Bs):List Bs->List Bs
 |[]=>[x]
 |y::r=>if x<=y then x::y::r else y::sP x r
def dS:List Bs->List Bs
 |[]=>[]
 |x::r=>sP x (dS r)
def ot (a:List PV):Option (List PV):=match kR a with
 |some l=>some ((dS l).map .str)
 |none=>(mW a).map λl=>(dS l).map .bytes
noncomputable def gI (s:Bs):List Bs->Bs
 |[]=>[]
 |[x]=>x
 |x::r=>x++s++gI s r
noncomputable def c5 (c:Nat):Bs->List Bs
 |[]=>[[]]
 |x::r=>if x=c then[]::c5 c r else match c5 c r with
  |[]=>[[x]]
  |y::s=>(x::y)::s
noncomputable def sR (c:Nat)(l:Bs):Int:=match l.findIdx? (·==c) with
 |some i=>i
 |none=> -1
noncomputable def qJ (a l:Bs):Bs:=((l.dropWhile (a.contains ·)).reverse.dropWhile (a.contains ·)).reverse
noncomputable def y6 (n:Nat):Bs:=(toString n).toList.map Char.toNat
def GU (Y:AH) (v:PV):Option PV:=match v with
 |.str l=>if fits l then some (.int l.length) else none
 |.bytes l=>if fits l then some (.int l.length) else none
 |.av l=>if l.length<=aI then some (.int l.length) else none
 |.ref a=>dq (λb=>if b.length<=aI then some (.int b.length) else none) none (Y a)
 |_=>none
def GW (Y:AH) (v:PV):Option PV:=match v with
 |.bytes l=>some (.bytes l)
 |.int i=>if 0<=i/\i<1000 then some (.bytes (List.replicate i.toNat 0)) else none
 |.ref a=>dq (λb=>(vR b).bind λns=>if(ns.all (λi=>decide (0<=i/\i<256))&&decide (ns.length<=aI))=true then some (.bytes (ns.map Int.toNat)) else none) none (Y a)
 |_=>none
noncomputable def sS (l:Bs):Option PV:=match l with|[]=>none|c::r=>(match r with|[]=>some (.int c)|_::_=>none)
def y7 (Y:AH) (f:List Bool->Bool) (v:PV):Option PV:=v.d7 (λa=>dq (λc=>(vS c).map λb=>.bool (f b)) none (Y a)) none
def gJ (Y:AH) (b:Bi):List PV->Option PV:=match b with
 |.len=>a8 (GU Y) none
 |.mS=>a8 (PV.d6 sS none) none
 |.pq=>a8 (PV.cu (λi=>if 0<=i/\i<256 then some (.str [i.toNat]) else none) none) none
 |.bytes=>a8 (GW Y) none
 |.str=>a8 (PV.cu (λi=>if 0<=i/\i<1000 then some (.str (y6 i.toNat)) else none) none) none
 |.all=>a8 (y7 Y (·.all id)) none
 |.any=>a8 (y7 Y (·.any id)) none
 |.int=>a8 (PV.cu (λi=>some (.int i)) none) none
 |.tuple=>a8 (PV.jW (λl=>some (.av l)) none) none
 |.isStr=>a8 (λv=>match v with|.str _=>some (.bool true)|.none=>some (.bool false)|_=>none) none
 |_=>λO=>none
def eF (l p:Bs):List Bs:=(Txt.split (bp l) (bp p)).map λx=>x.cps.toList
def sU (s:Bs) (a:List Bs):Bs:=(Txt.join (bp s) (a.map bp)).cps.toList
set_option genCtorIdx true in
inductive MK|append|pz|fJ|get|oh|split|startswith|endswith|find|mV|join|vT
 deriving DecidableEq
noncomputable def bE.kn (m:bE):MK:=([.append,.pz,.fJ,.get,.oh,.split,.startswith,.endswith,.find,.mV,.join]:List MK).getD (m.i.val-45) .vT|>λk=>if m.i.val<45 then .vT else k
def CF (m:MK) (l:Bs) (a:List PV):Option PV:=a8 (PV.d6 (λp=>match m with
 |.startswith=>some (.bool (Txt.startswith (bp l) (bp p)))
 |.endswith=>some (.bool (Txt.endswith (bp l) (bp p)))
 |.find=>some (.int (Txt.find (bp l) (bp p)))
 |_=>none) none) none a
def GX (l p:Bs):Option PV:=match p with|[]=>none|c::r=>(match r with|[]=>some (.int (sR c l))|_::_=>none)
def CG (m:MK) (l:Bs) (a:List PV):Option PV:=a8 (PV.lR (λp=>match m with
 |.startswith=>some (.bool (p.isPrefixOf l))
 |.find=>GX l p
 |.mV=>if fits l=true then some (.bytes (qJ p l)) else none
 |_=>none) none) none a
noncomputable def Cl.gw (c:Cl):Fn:=([.fe,.fe,.fe,.fe,.fe,.fe,.fe,.fe,.BI,.BP,.BV,.qG,.O6,.Ca,.yV,.Ci]:List Fn).getD c.i.val .fe
noncomputable def Cl.hP (c:Cl):Bool:=decide (c.i.val<8)
noncomputable def Cl.fM (c:Cl)(a:At):Bool:=([[.dp],[.dp],[.dp],[.dp],[.dp],[.dp],[.dp],[.dp],[.left,.fa,.below],[.eC,.jU,.pd,.n9],[.name,.cC,.lM],[.name,.new,.hH,.qE,.BF,.yF],[.eC,.kP,.size],[.eC,.kP,.size,.yG],[.change,.name,.du,.ve,.b9,.jw],[.iN,.yH,.lN,.fm,.pe]]:List (List At)).getD c.i.val []|>.contains a
noncomputable def Cl.au (c:Cl)(m:bE):Option Fn:=([[],[],[],[],[],[],[],[],[(.Cs,.yM),(.has,.vD),(.vI,.yN),(.yi,.BJ),(.yW,.BL),(.sH,.BM),(.yX,.sA),(.GC,.yO),(.yY,.yP),(.Pa,.O4),(.Ct,.BO),(.bh,.yQ),(.Cu,.yR)],[(.take,.BQ),(.dA,.BR),(.sI,.BS),(.drop,.vE),(.Cv,.BU)],[(.GD,.BW)],[],[],[(.mU,.BX),(.yZ,.BY),(.Cw,.BZ),(.loose,.B0),(.raw,.B1),(.sJ,.B2),(.GF,.B3),(.GG,.B4),(.Cy,.B5),(.has,.B6),(.Cz,.B7),(.names,.B8),(.lM,.O7),(.GH,.B9),(.apply,.jV),(.y1,.Cb),(.y2,.Cc),(.GI,.Ce)],[(.y3,.Cf),(.vJ,.Cg)],[(.GJ,.Cj),(.GK,.Cm),(.take,.Cn),(.GL,.Co),(.GN,.Cp),(.GO,.O8),(.GP,.Cq),(.sI,.Cr),(.GQ,.O9)]]:List (List (bE×Fn))).getD c.i.val []|>.lookup m
noncomputable def bE.kU (m:bE):Option At:=if m=.lM then some .lM else none
noncomputable def aey (s:String):Bs:=s.toList.map Char.toNat
noncomputable def Gl.pv (g:Gl):PV:=([
 .int 33188,
 .str [48,49,50,51,52,53,54,55,56,57,97,98,99,100,101,102],
 .bytes [46,108,111,99,107],
 .int 5,
 .bytes [114,101,102,58],
 .bytes [32,9,13,10],
 .bytes [48,49,50,51,52,53,54,55,56,57,97,98,99,100,101,102,65,66,67,68,69,70],
 .str [126,94,58,63,42,91,92],
 .str [114,101,102,115,47],
 .str [72,69,65,68],
 .str [112,97,99,107,101,100,45,114,101,102,115],
 .bytes [35,32,112,97,99,107,45,114,101,102,115,32,119,105,116,104,58],
 .bytes [32,112,101,101,108,101,100,32,102,117,108,108,121,45,112,101,101,108,101,100,32,115,111,114,116,101,100,32],
 .av [.str [114,101,102,115,47,104,101,97,100,115,47],.str [114,101,102,115,47,114,101,109,111,116,101,115,47],.str [114,101,102,115,47,110,111,116,101,115,47]],
 .av [.av [.str [],.str []],.av [.str [114,101,102,115,47],.str []],.av [.str [114,101,102,115,47,116,97,103,115,47],.str []],.av [.str [114,101,102,115,47,104,101,97,100,115,47],.str []],
   .av [.str [114,101,102,115,47,114,101,109,111,116,101,115,47],.str []],.av [.str [114,101,102,115,47,114,101,109,111,116,101,115,47],.str [47,72,69,65,68]]]]:List PV).getD g.i .none
set_option genCtorIdx true in
inductive Kd|str|bytes|list|dict
 deriving DecidableEq
noncomputable def Kd.T:Kd->String
 |.str=>"str"|.bytes=>"bytes"|.list=>"list"|.dict=>"dict"
noncomputable def y8 (o:Option bS):Option Kd:=match o with|some o=>(match o with|.list _=>some .list|.dict _ _=>some .dict|_=>none)|none=>none
def hR (Y:AH) (v:PV):Option Kd:=match v with
 |.str _=>some .str
 |.bytes _=>some .bytes
 |.ref a=>y8 (Y a)
 |_=>none
noncomputable def Kd.pF (k:Kd)(m:MK):Option String:=match k with
 |.list=>(match m with|.append=>some "list.append"|.pz=>some "list.extend"|.fJ=>some "list.pop"|_=>none)
 |.dict=>(match m with|.get=>some "dict.get"|.fJ=>some "dict.pop"|.oh=>some "dict.setdefault"|_=>none)
 |.str=>(match m with|.split=>some "str.split"|.startswith=>some "str.startswith"|.endswith=>some "str.endswith"|.find=>some "str.find"|.join=>some "str.join"|_=>none)
 |.bytes=>(match m with|.split=>some "bytes.split"|.startswith=>some "bytes.startswith"|.find=>some "bytes.find"|.mV=>some "bytes.strip"|.join=>some "bytes.join"|_=>none)
def Kd.ou (k:Kd) (m:bE):Option String:=k.pF m.kn
noncomputable def GY (x:Bs):List Bs->List Bs
 |[]=>[x]
 |y::r=>if x.length<=y.length then x::y::r else y::GY x r
def GZ:List Bs->List Bs
 |[]=>[]
 |x::r=>GY x (GZ r)
noncomputable def da.has (a:da):Bool:=match a with|.nil=>false|.cons _ _=>true
noncomputable def PE.G0 (p:PE):Option (PLift (p=.no)):=match p with|.no=>some ⟨rfl⟩|_=>none
def PE.iy (p:PE):Bool:=p.G0.isSome
noncomputable def bQ (o:Option a)(Q:a->Prop):Prop:=match o with|some r=>Q r|none=>False
def lT (a:aP) (i:Nat) (Q:PV->Prop):Prop:=bQ a[i]? λo=>bQ o Q
def mX (v:PV) (Y:AH) (f:Addr->Cl->List (At×PV)->Prop) (g:Prop):Prop:=v.d7 (λa=>hO (f a) g (Y a)) g
theorem ff {P:Prop}(h:bQ o Q)(k:∀r,o=some r->Q r->P):P:=by
 cases o with
 |none=>exact False.elim h
 |some r=>exact k r rfl h
theorem G1 {P:Prop}(h:lT b i Q)(k:∀v,b[i]? =some (some v)->Q v->P):P:=
 ff h λo e h=>ff h λv a h=>k v (a▸e) h
theorem qK {P:Prop}(h:dq f False o)(k:∀a,o=some (.list a)->f a->P):P:=by
 cases o with
 |none=>exact False.elim h
 |some o=>cases o with
  |list a=>exact k a rfl h
  |_=>exact False.elim h
inductive G2 (o:Option bS)(a:List PV):Prop
 |list (e:o=some (.list a))
 |ro (b:Obj) (e:o=some (.ro b a))
theorem Pc {P:Prop}(h:vO f False o)(k:∀a,G2 o a->f a->P):P:=by
 cases o with
 |none=>exact False.elim h
 |some o=>cases o with
  |list a=>exact k a (.list rfl) h
  |ro b a=>exact k a (.ro b rfl) h
  |_=>exact False.elim h
@[elab_as_elim] theorem G3 {C:c->Prop} (k1:∀b a,o=some (.dict b a)->C (f a)) (k2:C d):C (lS f d o):=by
 cases o with
 |none=>exact k2
 |some o=>cases o with
  |dict b a=>exact k1 b a rfl
  |_=>exact k2
theorem Pd {P:Prop}(h:lS f False o)(k:∀b a,o=some (.dict b a)->f a->P):P:=by
 cases o with
 |none=>exact False.elim h
 |some o=>cases o with
  |dict b a=>exact k b a rfl h
  |_=>exact False.elim h
theorem y9 {P:Prop}(h:hO f False o)(k:∀c a,o=some (.bc c a)->f c a->P):P:=by
 cases o with
 |none=>exact False.elim h
 |some o=>cases o with
  |bc c a=>exact k c a rfl h
  |_=>exact False.elim h
theorem sV {P:Prop}(h:dq f none o=some r)(k:∀a,o=some (.list a)->f a=some r->P):P:=by
 cases o with
 |none=>injection h
 |some o=>cases o with
  |list a=>exact k a rfl h
  |_=>injection h
theorem Pe {P:Prop}(h:mX v Y f g)(k:∀a c b,v=.ref a->Y a=some (.bc c b)->f a c b->P)(d:g->P):P:=by
 cases v with
 |ref a=>
  have h:hO (f a) g (Y a):=h;cases e:Y a with
  |none=>rw[e] at h;exact d h
  |some o=>
   rw[e] at h;cases o with
   |bc c b=>exact k a c b rfl e h
   |_=>exact d h
 |_=>exact d h
theorem G5 {C:List PV->Prop}(h:a8 f False a)(k:∀v,f v->C [v]):C a:=by
 cases a with
 |nil=>exact False.elim h
 |cons v r=>cases r with
  |nil=>exact k v h
  |cons O O=>exact False.elim h
theorem V (h:(a&&b)=true):a=true/\b=true:=by
 cases a with
 |false=>injection h
 |true=>exact⟨rfl,h⟩
theorem cw (h:(!a)=true):a=false:=by
 cases a with
 |false=>rfl
 |true=>injection h
theorem lU (h:(a||b)=true):a=true∨b=true:=by
 cases a with
 |false=>exact .inr h
 |true=>exact .inl rfl
noncomputable abbrev XP:=Cl->PV->AH->Prop
abbrev XR:=Cl->PV->aP->AH->Prop
abbrev jX:=Bool->Fn->List PV->(PV->AH->Prop)->XP->AH->Prop
def bw (Y:AH) (o:bS) (Q:PV->AH->Prop):Prop:=∀z,Y z=none->Q (.ref z) (Y.set z o)
def qL (Y:AH) (d:Addr) (k v:PV) (K:AH->Prop):Prop:=lS (λa=>(k.jb&&dr k a)=true/\a.length<=aI/\(∀b,K (Y.set d (.dict b (fx a k v))))) False (Y d)
noncomputable def jz (a b s:Int):List PV:=(List.range ((b-a+s-1)/s).toNat).map λ(k:Nat)=>.int (a+s*k)
noncomputable def vU:Nat->List PV->List PV
 |_,[]=>[]
 |i,x::r=>.av [.int i,x]::vU (i+1) r
def zb (m:MK) (a:Addr) (c:List PV) (d:List PV) (Q:PV->AH->Prop) (Y:AH):Prop:=match m with
 |.append=>a8 (λx=>c.length<=aI/\Q .none (Y.set a (.list (c++[x])))) False d
 |.pz=>a8 (PV.d7 (λb=>dq (λys=>a≠b/\(c++ys).length<=aI/\Q .none (Y.set a (.list (c++ys)))) False (Y b)) False) False d
 |.fJ=>zero (bQ c.getLast? λx=>c.length<=aI/\Q x (Y.set a (.list c.dropLast))) False d
 |_=>False
def G6 (a:Addr) (b:List (PV×PV)) (k:PV) (Q:PV->AH->Prop) (Y:AH):Prop:=(k.jb&&dr k b)=true/\b.length<=aI/\bQ (el b k) λx=>∀c,Q x (Y.set a (.dict c (pB b k)))
def G7 (a:Addr) (b:List (PV×PV)) (k d:PV) (Q:PV->AH->Prop) (Y:AH):Prop:=d.iw (k.d6 (λl=>dr (.str l) b=true/\b.length<=aI/\(match el b (.str l) with|some x=>∀c,Q x (Y.set a (.dict c (pB b (.str l))))|none=>Q .none Y)) False) False
def Pf (a:Addr) (b:List (PV×PV)) (k d:PV) (Q:PV->AH->Prop) (Y:AH):Prop:=(k.jb&&dr k b)=true/\b.length<=aI/\(match el b k with|some x=>Q x Y|none=>∀c,Q d (Y.set a (.dict c (fx b k d))))
def G8 (a:List (PV×PV)) (k d:PV) (Q:PV->AH->Prop) (Y:AH):Prop:=(k.jb&&dr k a)=true/\Q ((el a k).getD d) Y
def CH (a:List PV) (f:PV->Prop) (g:PV->PV->Prop):Prop:=match a with|[]=>False|k::r=>(match r with|[]=>f k|d::r=>zero (g k d) False r)
noncomputable def CI (m:MK)(a:Addr)(b:List (PV×PV))(c:List PV)(Q:PV->AH->Prop)(Y:AH):Prop:=match m with
 |.fJ=>CH c (λk=>G6 a b k Q Y) λk d=>G7 a b k d Q Y
 |.get=>CH c (λk=>G8 b k .none Q Y) λk d=>G8 b k d Q Y
 |.oh=>jy (λk d=>Pf a b k d Q Y) False c
 |_=>False
def G9 (m:MK) (l:Bs) (b:List PV) (Q:PV->AH->Prop) (Y:AH):Prop:=match m with
 |.split=>a8 (PV.d6 (λp=>p≠[]/\l.length<=aI/\(eF l p).length<=aI/\bw Y (.list ((eF l p).map .str)) Q) False) False b
 |.join=>a8 (PV.d7 (λa=>dq (λd=>bQ (kR d) λc=>JoinOk (bp l) (c.map bp)=true/\Q (.str (sU l c)) Y) False (Y a)) False) False b
 |m=>bQ (CF m l b) λr=>Q r Y
noncomputable def Pg (p:Bs)(f:Nat->Prop):Prop:=match p with|[]=>False|c::r=>(match r with|[]=>f c|_::_=>False)
def Ha (m:MK) (l:Bs) (b:List PV) (Q:PV->AH->Prop) (Y:AH):Prop:=match m with
 |.split=>a8 (PV.lR (λp=>Pg p λc=>l.length<=aI/\c<256/\bw Y (.list ((c5 c l).map .bytes)) Q) False) False b
 |.join=>a8 (PV.d7 (λa=>dq (λe=>bQ (mW e) λd=>(gI l d).length<=aI/\Q (.bytes (gI l d)) Y) False (Y a)) False) False b
 |m=>bQ (CG m l b) λr=>Q r Y
def zc (m:MK) (a:Addr) (o:Option bS) (b:List PV) (Q:PV->AH->Prop) (Y:AH):Prop:=match o with|some o=>(match o with|.list d=>zb m a d b Q Y|.dict _ c=>CI m a c b Q Y|_=>False)|none=>False
def hS (m:bE) (v:PV) (b:List PV) (Q:PV->AH->Prop) (Y:AH):Prop:=match v with
 |.str l=>G9 m.kn l b Q Y
 |.bytes l=>Ha m.kn l b Q Y
 |.ref a=>zc m.kn a (Y a) b Q Y
 |_=>False
def pG (a:Addr) (Q:PV->AH->Prop) (Y:AH):Prop:=match Y a with
 |some (.list d)=>bQ (ot d) λb=>d.length<64/\bw Y (.list b) Q
 |some (.dict _ c)=>bQ (ot (c.map (·.1))) λb=>c.length<64/\bw Y (.list b) Q
 |_=>False
def sW (a:Addr) (Q:PV->AH->Prop) (Y:AH):Prop:=match Y a with
 |some (.list c)=>c.length<=aI/\bw Y (.list c) Q
 |some (.dict _ b)=>b.length<=aI/\bw Y (.list (b.map (·.1))) Q
 |_=>False
def iz (b:Bi) (c:List PV) (Q:PV->AH->Prop) (Y:AH):Prop:=match b with
 |.sorted=>a8 (PV.d7 (λa=>pG a Q Y) False) False c
 |.list=>a8 (PV.d7 (λa=>sW a Q Y) False) False c
 |b=>bQ (gJ Y b c) λr=>Q r Y
def Hb (v lo b:PV) (Q:PV->AH->Prop) (Y:AH):Prop:=match v with
 |.str l=>bQ (kT l lo b) λr=>l.length<=aI/\Q (.str r) Y
 |.bytes l=>bQ (kT l lo b) λr=>l.length<=aI/\Q (.bytes r) Y
 |.ref a=>vO (λc=>bQ (kT c lo b) λr=>c.length<=aI/\bw Y (.list r) Q) False (Y a)
 |_=>False
def Hc (v lo c:PV) (Q:PV->AH->Prop) (Y:AH):Prop:=lo.iw (match v with
 |.ref a=>c.iw (dq (λd=>d.length<=aI/\bw Y (.list d.reverse) Q) False (Y a)) False
 |.av b=>c.cu (λi=>i=0/\(1<=b.length/\b.length<=aI)/\Q (.av (b.drop 1).reverse) Y) False
 |_=>False) False
noncomputable def sX (v lo a st:PV)(Q:PV->AH->Prop)(Y:AH):Prop:=match st with
 |.none=>Hb v lo a Q Y
 |.int i=>i= -1/\Hc v lo a Q Y
 |_=>False
def Ph (o:hJ) (u v:PV) (Q:PV->AH->Prop) (Y:AH):Prop:=o=.add/\u.d7 (λa=>v.d7 (λb=>dq (λc=>dq (λys=>(c++ys).length<=aI/\bw Y (.list (c++ys)) Q) False (Y b)) False (Y a)) False) False
def iA (o:hJ) (u v:PV) (Q:PV->AH->Prop) (Y:AH):Prop:=match vP o u v with
 |some r=>Q r Y
 |none=>Ph o u v Q Y
def pH (a b s:Int) (K:List PV->(AH->Prop)->AH->Prop) (Y:AH):Prop:=((0<s/\s<=1000000)/\(-1000000<=a/\a<=1000000)/\-1000000<=b/\b<=1000000)/\K (jz a b s) (λO=>True) Y
def CJ (a:Addr) (K:List PV->(AH->Prop)->AH->Prop) (Y:AH):Prop:=dq (λb=>b.length<=1000000/\K (vU 0 b) (λc=>c a=some (.list b)) Y) False (Y a)
noncomputable def Pj (f:PV->PV->PV->Prop)(a:List PV):Prop:=match a with|[]=>False|v::r=>jy (f v) False r
def lV (v:PV) (Y:AH) (K:List PV->(AH->Prop)->Prop):Prop:=match v with
 |.av g=>K g (λO=>True)
 |.str l=>K (l.map λc=>.str [c]) (λO=>True)
 |.bytes l=>K (l.map λ(c:Nat)=>.int c) (λO=>True)
 |.ref a=>(match Y a with
   |some (.list e)=>K e (λb=>b a=some (.list e))
   |some (.dict f d)=>K (d.map (·.1)) (λb=>b a=some (.dict f d))
   |_=>False)
 |_=>False
noncomputable def mY (H:PV->AH->(Option PV->AH->Prop)->Prop)(g:AH->Prop):List PV->List PV->AH->(List PV->AH->Prop)->Prop
 |[],a,Y,Q=>Q a Y
 |x::r,a,Y,Q=>H x Y λo b=>g b/\mY H g r (a++o.toList) b Q
noncomputable def jA (H:PV->aP->AH->(Fl->aP->AH->Prop)->Prop)(g:AH->Prop)(Q:Fl->aP->AH->Prop):List PV->aP->AH->Prop
 |[],c,Y=>Q .next c Y
 |x::r,c,Y=>H x c Y λf b a=>match f with
  |.next=>g a/\jA H g Q r b a
  |.cont=>g a/\jA H g Q r b a
  |.brk=>Q .next b a
  |.ret p=>Q (.ret p) b a
noncomputable def fK.len:fK->Nat
 |.nil=>0
 |.cons _ r=>r.len+1
abbrev WE:=aP->(PV->AH->Prop)->XP->AH->Prop
abbrev WB:=aP->(Bool->AH->Prop)->XP->AH->Prop
abbrev WL:=aP->(List PV->AH->Prop)->XP->AH->Prop
abbrev WI:=aP->(List PV->(AH->Prop)->AH->Prop)->XP->AH->Prop
abbrev WT:=PV->aP->(aP->AH->Prop)->XP->AH->Prop
abbrev WS:=aP->(Fl->aP->AH->Prop)->XR->AH->Prop
section
variable (C:jX)(h:Fn->Nat)(j:Nat)
mutual
noncomputable def W (q:Bool):PE->aP->(PV->AH->Prop)->XP->AH->Prop
 |.ab c,_,Q,_,Y=>Q c.pv Y
 |.af i,d,Q,_,Y=>lT d i (λv=>Q v Y)
 |.cH g,_,Q,_,Y=>Q g.pv Y
 |.aj e a,d,Q,X,Y=>W q e d (λv Y=>v.d7 (λx=>hO (λc s=>c.fM a=true/\bQ (eE s a) (λu=>Q u Y)) False (Y x)) False) X Y
 |.item e i,d,Q,X,Y=>W q e d (λv Y=>W q i d (λk Y=>bQ (ix Y v k) (λr=>Q r Y)) X Y) X Y
 |.d5 e lo I st,d,Q,X,Y=>W q e d (λv Y=>W q lo d (λa Y=>W q I d (λb Y=>W q st d (λc Y=>sX v a b c Q Y) X Y) X Y) X Y) X Y
 |.no,_,Q,_,Y=>Q .none Y
 |.bq o a b,d,Q,X,Y=>W q a d (λu Y=>W q b d (λv Y=>iA o u v Q Y) X Y) X Y
 |.neg e,d,Q,X,Y=>W q e d (λv Y=>v.cu (λi=>Q (.int (-i)) Y) False) X Y
 |.dF e,d,Q,X,Y=>W q e d (λv Y=>v.hN (λb=>Q (.bool !b) Y) False) X Y
 |.bV k l,d,Q,X,Y=>Wb q k l d (λb Y=>Q (.bool b) Y) X Y
 |.aM o a b,d,Q,X,Y=>W q a d (λu Y=>W q b d (λv Y=>bQ (dG Y o u v) (λr=>Q (.bool r) Y)) X Y) X Y
 |.vK o p a b c,d,Q,X,Y=>W q a d (λu Y=>W q b d (λv Y=>bQ (dG Y o u v) (λr=>if r then W q c d (λx Y=>bQ (dG Y p v x) (λr=>Q (.bool r) Y)) X Y else Q (.bool false) Y)) X Y) X Y
 |.ite c a b,d,Q,X,Y=>T q c (W q c) d (λt Y=>if t then W q a d Q X Y else W q b d Q X Y) X Y
 |.tuple l,d,Q,X,Y=>Ws q l d (λn Y=>n.length<=aI/\Q (.av n) Y) X Y
 |.list l,d,Q,X,Y=>Ws q l d (λn Y=>n.length<=aI/\bw Y (.list n) Q) X Y
 |.dict G,d,Q,X,Y=>Wd q G d (λl Y=>∀U,bw Y (.dict U l) Q) X Y
 |.c4 y t A cond,d,Q,X,Y=>q=false/\Wi q A (W q A) d (λitems g Y=>items.length<=aI/\mY (λx Y K=>Wt q t x d (λd Y=>if cond.iy then W q y d (λv Y=>K (some v) Y) X Y else T q cond (W q cond) d (λb Y=>if b then W q y d (λv Y=>K (some v) Y) X Y else K none Y) X Y) X Y) g items [] Y (λw Y=>w.length<=aI/\bw Y (.list w) Q)) X Y
 |.call f l,d,Q,X,Y=>Ws q l d (λn Y=>h f<j/\C q f n Q X Y) X Y
 |.fv c l,d,Q,X,Y=>c.hP=false/\Ws q l d (λn Y=>∀z,Y z=none->h c.gw<j/\C q c.gw (.ref z::n) (λr Y=>r.iw (Q (.ref z) Y) False) X (Y.set z (.bc c []))) X Y
 |.bi b l,d,Q,X,Y=>q=false/\Ws q l d (λn Y=>iz b n Q Y) X Y
 |.au o m l,d,Q,X,Y=>W q o d (λv Y=>mX v Y (λa c s=>bQ (c.au m) (λf=>(m.kU.all λa=>(eE s a).isNone)=true/\Ws q l d (λn Y=>h f<j/\C q f (.ref a::n) Q X Y) X Y))
   (bQ (hR Y v) (λk=>q=false/\(k.ou m).isSome=true/\Ws q l d (λn D=>hR D v=some k/\hS m v n Q D) X Y))) X Y
 |.range ..,_,_,_,_=>False
 |.ja ..,_,_,_,_=>False
 |.y4 e,d,Q,X,Y=>W q e d (λv Y=>v.d7 (λa=>dq (λJ=>bQ (kR J) (λH=>q=false/\H.length<64/\bw Y (.list ((GZ H).map .str)) Q)) False (Y a)) False) X Y
 |.pA,_,_,_,_=>False
noncomputable def Ws (q:Bool):da->aP->(List PV->AH->Prop)->XP->AH->Prop
 |.nil,_,Q,_,Y=>Q [] Y
 |.cons e b,a,Q,X,Y=>W q e a (λv Y=>Ws q b a (λc Y=>Q (v::c) Y) X Y) X Y
noncomputable def Wb (q k:Bool):da->aP->(Bool->AH->Prop)->XP->AH->Prop
 |.nil,_,_,_,_=>False
 |.cons e .nil,a,Q,X,Y=>W q e a (λv Y=>v.hN (λb=>Q b Y) False) X Y
 |.cons e (.cons d r),a,Q,X,Y=>W q e a (λv Y=>v.hN (λb=>if b=k then Wb q k (.cons d r) a Q X Y else Q b Y) False) X Y
noncomputable def Wd (q:Bool):vL->aP->(List (PV×PV)->AH->Prop)->XP->AH->Prop
 |.nil,_,Q,_,Y=>Q [] Y
 |.cons k v d,c,Q,X,Y=>W q k c (λa Y=>W q v c (λe Y=>Wd q d c (λb Y=>(a.CE&&dr a b&&!fw b a)=true/\Q ((a,e)::b) Y) X Y) X Y) X Y
noncomputable def T (q:Bool):PE->(aP->(PV->AH->Prop)->XP->AH->Prop)->aP->(Bool->AH->Prop)->XP->AH->Prop
 |.dF e,_,d,Q,X,Y=>T q e (W q e) d (λb Y=>Q (!b) Y) X Y
 |.bV k f,_,d,Q,X,Y=>Ts q k f d Q X Y
 |.ite c a b,_,d,Q,X,Y=>T q c (W q c) d (λt Y=>if t then T q a (W q a) d Q X Y else T q b (W q b) d Q X Y) X Y
 |_,w,d,Q,X,Y=>w d (λv Y=>v.hN (λb=>Q b Y) False) X Y
noncomputable def Ts (q k:Bool):da->aP->(Bool->AH->Prop)->XP->AH->Prop
 |.nil,_,Q,_,Y=>Q k Y
 |.cons e r,a,Q,X,Y=>T q e (W q e) a (λb Y=>if b=k then Ts q k r a Q X Y else Q b Y) X Y
noncomputable def Wi (q:Bool):PE->(aP->(PV->AH->Prop)->XP->AH->Prop)->aP->(List PV->(AH->Prop)->AH->Prop)->XP->AH->Prop
 |.range a b s,_,c,K,X,Y=>W q a c (λu Y=>W q b c (λv Y=>W q s c (λt Y=>u.cu (λa=>v.cu (λb=>t.cu (λs=>pH a b s K Y) False) False) False) X Y) X Y) X Y
 |.ja e,_,c,K,X,Y=>W q e c (λv Y=>v.d7 (λa=>CJ a K Y) False) X Y
 |_,w,c,K,X,Y=>w c (λv Y=>lV v Y λl g=>K l g Y) X Y
noncomputable def Wt (q:Bool):Tg->PV->aP->(aP->AH->Prop)->XP->AH->Prop
 |.af i,v,b,K,_,Y=>i<b.length/\K (b.set i (some v)) Y
 |.aj e a,v,b,K,X,Y=>W q e b (λo Y=>o.d7 (λx=>hO (λc f=>(c.fM a=true/\f.length<=50)/\K b (Y.set x (.bc c (jc f a v)))) False (Y x)) False) X Y
 |.item e k,v,b,K,X,Y=>W q e b (λo Y=>W q k b (λm Y=>o.d7 (λd=>qL Y d m v (K b)) False) X Y) X Y
 |.av l,v,b,K,_,Y=>q=false/\v.jW (λg=>l.len=g.length/\lW q l g b K (λO O O=>False) Y) False
noncomputable def lW (q:Bool):fK->List PV->aP->(aP->AH->Prop)->XP->AH->Prop
 |.nil,a,b,K,_,Y=>(match a with|[]=>K b Y|_::_=>False)
 |.cons t c,a,b,K,X,Y=>(match a with|p::a=>Wt q t p b (λb Y=>lW q c a b K X Y) X Y|[]=>False)
end
noncomputable def qM (o:hJ):PV->PV->Option PV:=match o with
 |.add=>oi λa b=>some (.int (a+b))
 |.sub=>oi λa b=>some (.int (a-b))
 |_=>λO O=>none
def vV (c:aP->AH->(Bool->AH->Prop)->Prop) (H:aP->AH->(Fl->aP->AH->Prop)->Prop) (Q:Fl->aP->AH->Prop) (a:aP) (Y:AH):Prop:=
 ∃(I:Nat->aP->AH->Prop) (n:Nat),I n a Y/\∀n a Y,I n a Y->c a Y λb Y=>if b then H a Y (λf a Y=>match f with
  |.next=>∃m,m<n/\I m a Y
  |.cont=>∃m,m<n/\I m a Y
  |.brk=>Q .next a Y
  |.ret p=>Q (.ret p) a Y) else Q .next a Y
mutual
noncomputable def S (q:Bool):PS->aP->(Fl->aP->AH->Prop)->XR->AH->Prop
 |.assign t e,l,Q,X,Y=>W C h j q e l (λv Y=>Wt C h j q t v l (λl Y=>Q .next l Y) (λc t=>X c t l) Y) (λc t=>X c t l) Y
 |.CA i o e,l,Q,X,Y=>lT l i (λu=>W C h j q e l (λv Y=>bQ (qM o u v) (λr=>Q .next (l.set i (some r)) Y)) (λc t=>X c t l) Y)
 |.CB b a o e,l,Q,X,Y=>W C h j q b l (λw Y=>w.d7 (λx=>hO (λc m=>bQ (eE m a) (λu=>c.fM a=true/\W C h j q e l (λv Y=>bQ (qM o u v) (λr=>hO (λc m=>(c.fM a=true/\m.length<=50)/\Q .next l (Y.set x (.bc c (jc m a r)))) False (Y x))) (λc t=>X c t l) Y)) False (Y x)) False) (λc t=>X c t l) Y
 |.y5 b k o e,l,Q,X,Y=>W C h j q b l (λw Y=>W C h j q k l (λp Y=>w.d7 (λd=>bQ (ix Y (.ref d) p) (λu=>W C h j q e l (λv Y=>bQ (qM o u v) (λr=>qL Y d p r (Q .next l))) (λc t=>X c t l) Y)) False) (λc t=>X c t l) Y) (λc t=>X c t l) Y
 |.expr e,l,Q,X,Y=>W C h j q e l (λO Y=>Q .next l Y) (λc t=>X c t l) Y
 |.ret e,l,Q,X,Y=>W C h j q e l (λv Y=>Q (.ret v) l Y) (λc t=>X c t l) Y
 |.a7 c a b,l,Q,X,Y=>T C h j q c (W C h j q c) l (λt Y=>if t then Ss q a l Q X Y else Ss q b l Q X Y) (λc t=>X c t l) Y
 |.cP t n b,l,Q,X,Y=>q=false/\Wi C h j q n (W C h j q n) l (λitems g Y=>jA (λx l Y K=>Wt C h j q t x l (λl Y=>Ss q b l K X Y) (λc t=>X c t l) Y) g Q items l Y) (λc t=>X c t l) Y
 |.vM c b,l,Q,X,Y=>vV (λl Y K=>T C h j q c (W C h j q c) l K (λc t=>X c t l) Y) (λl Y K=>Ss q b l K X Y) Q l Y
 |.qH b A,l,Q,X,Y=>Ss q b l Q (λc t l Y=>Sh c t A l Q X Y) Y
 |.sL b f,l,Q,X,Y=>Ss q b l (λy l Y=>Ss q f l (λz l Y=>match z with|.next=>Q y l Y|_=>False) X Y) (λO O O O=>False) Y
 |.dw c s,l,_,X,Y=>q=false/\c.hP=true/\(match s with
   |.nil=>X c (.str []) l Y
   |.cons e r=>!r.has/\W C h j q e l (λv Y=>X c v l Y) (λc t=>X c t l) Y)
 |.CD,l,Q,_,Y=>Q .next l Y
 |.pA,_,_,_,_=>False
noncomputable def Ss (q:Bool):cS->aP->(Fl->aP->AH->Prop)->XR->AH->Prop
 |.nil,a,Q,_,Y=>Q .next a Y
 |.cons s r,a,Q,X,Y=>S q s a (λf a Y=>match f with|.next=>Ss q r a Q X Y|f=>Q f a Y) X Y
noncomputable def Sh (c:Cl)(t:PV):vN->aP->(Fl->aP->AH->Prop)->XR->AH->Prop
 |.nil,a,_,X,Y=>X c t a Y
 |.cons d v b r,a,Q,X,Y=>if c=d then(match v with
   |none=>Ss true b a Q X Y
   |some i=>i<a.length/\∀z,Y z=none->Ss true b (a.set i (some (.ref z))) (λf a Y=>Q f (a.set i none) Y) (λO O O O=>False) (Y.set z (.bc c [(.dp,t)])))
  else Sh c t r a Q X Y
end
end
structure Cx where
 prog:Program
 w:World
 K:Frag
 base:Heap
 cy:Cl->Addr
 c1:Fn->Addr
 ht:Fn->Nat
theorem Hd (t:IsTup h a j)(e:h.get? a=some o)(b:∃c,d.get? a=some {o with slots:=c}):IsTup d a j:=by refine oY t λk i f n g=>Ke b λc b=>?_;have q:=ss e i;exact uE _ b (q▸f) n (q▸g)
def eL (h:Heap) (a:Addr) (items:Array Value):Prop:=∃o,h.get? a=some o/\∃n,o={cls:=.type "list",data:=.seq items n}
theorem eL.vW (l:eL h a items):∃n,h.get? a=some {cls:=.type "list",data:=.seq items n}:=uD l λo b n e=>⟨n,e▸b⟩
theorem eL.of (e:h.get? a=some {cls:=.type "list",data:=.seq items n}):eL h a items:=yg _ e n rfl
theorem eL.eG (l:eL h a items):h.IsList a items:=Ke l.vW λn e=>uE _ e rfl n rfl
section
variable (f:Cx)
inductive InstAt (d:Addr)(h:Heap)(a:Addr)(c:Cl)(g:List (At×PV)):Prop
 |mk (o:Obj) (b:List DictEntry) (n:Nat) (e:h.get? a=some o) (ec:o.cls=.ref (f.cy c)) (j:o.dict=some d) (k:o.data=.plain∨∃i,o.data=.fields i) (l:h.get? d=some (dictOf b n)) (r:ft f.w.params h b g)
def eT (k:Addr->Addr) (h:Heap) (a:Addr):bS->Prop
 |.list e=>∃d:List Value,eL h a d.toArray/\aJ h d e
 |.dict g i=>(∃b,h.DictAt (strKind f.prog f.w) a b g/\cK mQ h b i)∨(∃b,h.DictAt (bytesKind f.prog f.w) a b g/\cK sj h b i)
 |.bc c j=>InstAt f (k a) h a c j
 |.raw o=>h.get? a=some o/\(∀e n,o.data≠.seq e n)/\∀v,o.data≠.cell v
 |.ro o e=>h.get? a=some o/\∃d n,o={cls:=.type "list",data:=.seq d n}/\∀h,aJ h d.toList e
structure Mt (Y:AH)(e:Addr->Addr)(h:Heap):Prop where
 aa:∀a o,Y a=some o->eT f e h a o
 iB:∀a c g,Y a=some (.bc c g)->Y (e a)=none
 inj:∀a c g b d i,Y a=some (.bc c g)->Y b=some (.bc d i)->e a=e b->a=b
end
def bF (Y:AH) (e:Addr->Addr) (b:Addr):Prop:=Y b≠none∨∃a c d,Y a=some (.bc c d)/\e a=b
theorem qN (e:Y a=some o):bF Y b a:=.inl (c0 e)
theorem qO (e:Y a=some (.bc c b)):bF Y d (d a):=.inr (js a c b e rfl)
noncomputable def cM (a:List Env):List Addr:=a.filterMap (·.frame)
structure dT (c:Addr->Prop)(d:List Addr)(h a:Heap):Prop where
 bO:∀b,a.get? b=none->h.get? b=none
 aa:∀b o,h.get? b=some o->¬c b->b∉d->a.get? b=some o
 fr:∀b o,h.get? b=some o->¬c b->b∈d->∃e,a.get? b=some {o with slots:=e}
theorem dT.refl (a:Addr->Prop)(b:List Addr)(h:Heap):dT a b h h:=⟨λO e=>e,λO O e O O=>e,λO o e O O=>⟨o.slots,e⟩⟩
theorem dT.of_keeps (k:fp h a):dT c d h a:=
 ⟨λb=>gu λo q e=>nn e (k b o q),λb o e O O=>k b o e,λb o e O O=>⟨o.slots,k b o e⟩⟩
theorem dT.slots (k:dT a c h d)(e:h.get? b=some o)(n:¬a b):∃f,d.get? b=some {o with slots:=f}:=
 (Decidable.em (b∈c)).elim (k.fr b o e n) λm=>⟨o.slots,k.aa b o e n m⟩
theorem dT.trans (k:dT a f h j)(c:dT d f j p)(g:∀b,d b->a b∨h.get? b=none):dT a f h p:=by have i:∀b o,h.get? b=some o->¬a b->¬d b:=λb o e n q=>(g b q).elim n λl=>nn l e;exact⟨λb e=>k.bO b (c.bO b e),λb o e n m=>c.aa b o (k.aa b o e n m) (i b o e n) m,λb o e n m=>(Ke (k.fr b o e n m) λs e1=>Ke (c.fr b _ e1 (i b o e n) m) λr e2=>⟨r,e2⟩)⟩
theorem dT.Pl (k:dT a d h f)(g:∀b,a b->c b):dT c d h f:=
 ⟨k.bO,λb o e n m=>k.aa b o e (λq=>n (g b q)) m,λb o e n m=>k.fr b o e (λq=>n (g b q)) m⟩
theorem dT.ns (k:dT a g h d)(n:¬a L)(x:h.Ns L m):d.Ns L m:=by exact iY x λo c b f r=>Ke (k.slots f n) λi e=>js _ c b e r
theorem dT.cell (k:dT a g h b)(n:¬a c)(x:h.IsCell c v):b.IsCell c v:=by exact ai x λo f d=>Ke (k.slots f n) λi e=>aQ _ e d
section
inductive Kind (h:Heap)(b:Addr):Prop
 |mk (o:Obj) (e:h.get? b=some o) (t:o.cls=.type "tuple"->∀a n,o.data≠.seq a n) (c:∀v,o.data≠.cell v)
theorem eT.kind (r:eT i C h b o):Kind h b:=by
 cases o with
 |list y=>exact ai r λw l O=>Ke l.vW λn e=>⟨_,e,λq=>yI q rfl rfl,λv z=>((by injection z))⟩
 |dict k m=>
  have g:∀{K:Type} [DecidableEq K] {t:PySem.KeyKind i.prog i.w K} {u:List (K×Value)},h.DictAt t b u k->Kind h b:=λx=>by exact lA x λo A f d p O=>⟨o,f,λq=>yI q d.1 rfl,λv z=>((by injection (p.symm.trans z)))⟩
  exact r.elim (λa=>ai a λO x O=>g x) λa=>ai a λO x O=>g x
 |bc c H=>obtain⟨o,m,n,f,d,O,s,O⟩:=r;exact⟨o,f,λq=>((by injection (d.symm.trans q))),λv z=>s.elim (λq=>(by injection (q.symm.trans z))) λa=>Ke a λO q=>(by injection (q.symm.trans z))⟩
 |raw j=>exact⟨j,r.1,λO=>r.2.1,r.2.2⟩
 |ro j y=>exact Br r λe w n q O=>⟨_,e.trans (br some q),λq=>yI q rfl rfl,λv z=>((by injection z))⟩
theorem Mt.kind (M:Mt g Y f h)(x:bF Y f b):Kind h b:=by
 rcases x with x|⟨a,c,j,e,q⟩
 ·cases q:Y b with
  |none=>exact absurd q x
  |some o=>exact(M.aa b o q).kind
 ·obtain⟨o,i,n,O,O,O,O,d,O⟩:=M.aa a _ e
  exact⟨_,q▸d,λq=>yI q rfl rfl,λv z=>by injection z⟩
theorem Mt.bO (M:Mt d Y c h)(x:bF Y c b):h.get? b≠none:=λe=>by obtain⟨o,a,O⟩:=M.kind x;exact nn e a
theorem Mt.ze (M:Mt i Y g h)(t:IsTup h a k):¬bF Y g a:=λx=>by obtain⟨o,e,b,O⟩:=M.kind x;refine oY t λj f c n d=>?_;have q:=ss f e;exact b (q▸c) _ _ (q▸d)
theorem Mt.Pm (M:Mt g Y f h)(t:h.IsCell a v):¬bF Y f a:=λx=>by obtain⟨o,d,O,b⟩:=M.kind x;exact ai t λi e c=>b _ (ss e d▸c)
theorem Mt.lX (M:Mt d Y c h)(k:dT (bF Y c) e h h'):cb h h':=λa f t=>by exact ai (id t) λo b r=>Hd t b (k.slots b (M.ze t))
theorem mZ (k:Heap.SameBut d h h')(n:∀b,¬IsTup h d b):cb h h':=λa b t=>by exact ai t λo c r=>aQ o ((k.2 a (λe=>n b (e▸t))).trans c) r
theorem lY (k:fp h h'):cb h h':=λO O t=>t.keeps k
theorem eT.pJ (t:cb h h')(k:∀b,h.get? a=some b->h'.get? a=some b)(f:∀c i,o=.bc c i->I a=m a/\∀b,h.get? (m a)=some b->h'.get? (m a)=some b)(r:eT g m h a o):eT g I h' a o:=by
 cases o with
 |list U=>exact ai r λD G j=>ai G λo e q=>aQ D (aQ o (k _ e) q) (aJ.bU t j)
 |dict s u=>
  have p:∀{K:Type} [DecidableEq K] {f:PySem.KeyKind g.prog g.w K} {d:List (K×Value)},h.DictAt f a d s->h'.DictAt f a d s:=λx=>by exact fj x λo v e q=>gE o v (k _ e) q
  exact r.imp (λl=>ai l λd x y=>aQ d (p x) (y.bU t)) λl=>ai l λd x y=>aQ d (p x) (y.bU t)
 |bc c i=>obtain⟨o,u,n,e,w,z,A,H,j⟩:=r;exact Ka (f c i rfl) λq C=>⟨o,u,n,k _ e,w,z.trans (br some q.symm),A,q.symm▸C _ H,j.bU t⟩
 |raw b=>exact⟨k _ r.1,r.2⟩
 |ro b U=>exact⟨k _ r.1,r.2⟩
theorem eT.sY (e:Y a=some o)(d:∀c f,o=.bc c f->j a=g a)(k:∀b,bF Y g b->h'.get? b=h.get? b)(t:cb h h')(r:eT i g h a o):eT i j h' a o:=
 r.pJ t (λO x=>(k _ (qN e)).trans x) λc f q=>⟨d c f q,λO x=>(k _ (qO (e.trans (br some q)))).trans x⟩
theorem AH.ow {Y:AH}(e:Y.set z o b=some a):b=z/\a=o∨b≠z/\Y b=some a:=by
 by_cases q:b=z
 ·exact .inl ⟨q,ss e (q▸AH.a9 ..)⟩
 ·exact .inr ⟨q,(AH.cJ Y o q).symm.trans e⟩
theorem AH.vX {Y:AH}(n:b≠z)(e:Y b=none):Y.set z o b=none:=(AH.cJ Y o n).trans e
theorem AH.Pn {Y:AH}(e:Y.set z o b≠none):Y b≠none∨b=z:=by
 by_cases q:b=z
 ·exact .inr q
 ·exact .inl λx=>e (AH.vX q x)
theorem zg (n:¬bF Y b a):Y a=none:=by
 cases q:Y a with
 |none=>rfl
 |some o=>exact absurd (qN q) n
theorem bF.dA {Y:AH}(g:∀a,a≠z->f a=k a)(x:bF (Y.set z o) f b):bF Y k b∨b=z∨(∃c d,o=.bc c d)/\b=f z:=by
 rcases x with x|⟨a,c,d,e,q⟩
 ·exact(AH.Pn x).imp .inl .inl
 ·rcases AH.ow e with⟨i,j⟩|⟨n,e⟩
  ·exact .inr (.inr ⟨(mH c d j.symm),i▸q.symm⟩)
  ·exact .inl (.inr (js a c d e ((g a n).symm.trans q)))
theorem Mt.dA {Y:AH}(M:Mt v Y r h)(D:¬bF Y r z)(C:eT v s h' z o)(g:∀a,a≠z->s a=r a)(u:∀c f,o=.bc c f->s z≠z/\¬bF Y r (s z))
  (k:∀b,bF Y r b->∀x,h.get? b=some x->h'.get? b=some x) (t:cb h h'):Mt v (Y.set z o) s h':=by
 refine⟨λa o' e=>?_,λa c f e=>?_,λa c f b d w l p q=>?_⟩
 ·rcases AH.ow e with⟨i,j⟩|⟨n,e⟩
  ·exact B i (B j C)
  ·exact(M.aa a o' e).pJ t (k a (qN e)) λc f q=>⟨g a n,k _ (qO (e.trans (br some q)))⟩
 ·rcases AH.ow e with⟨i,j⟩|⟨n,e⟩
  ·exact Ka (u c f j.symm) λA H=>B i (AH.vX A (zg H))
  ·exact B (g a n) (AH.vX (λq=>D (q▸qO e)) (M.iB a c f e))
 ·rcases AH.ow l with⟨i,j⟩|⟨n,l⟩<;>rcases AH.ow p with⟨y,G⟩|⟨m,p⟩
  ·exact i.trans y.symm
  ·exact((u c f j.symm).2 (az i (B q (B (g b m) (qO p))))).elim
  ·exact((u d w G.symm).2 (az y (az q (B (g a n) (qO l))))).elim
  ·exact M.inj a c f b d w l p (az (g a n) (B q (B (g b m) rfl)))
theorem bF.He (j:∀b c f,g b=some (.bc c f)->∃c f,Y b=some (.bc c f))(sn:∀b,Y b=none->g b=none)(x:bF g k b):bF Y k b:=by
 rcases x with x|⟨a,c,f,e,q⟩
 ·exact .inl λz=>x (sn b z)
 ·exact eJ (j a c f e) λd i e=>.inr (js a d i e q)
theorem Mt.iC (M:Mt m Y n h)(k:∀b c f,l b=some (.bc c f)->∃c f,Y b=some (.bc c f))(sn:∀b,Y b=none->l b=none)(w:∀a o,l a=some o->eT m n h' a o):Mt m l n h':=by
 refine⟨w,λa c f e=>?_,λa c f b d u s t q=>?_⟩
 ·exact eJ (k a c f e) λg j i=>sn _ (M.iB a g j i)
 ·exact eJ (k a c f s) λg j i=>eJ (k b d u t) λp v r=>M.inj a g j b p v i r q
structure bk (a:Cx)(c:List Env)(Y:AH)(d:Addr->Addr)(h:Heap):Prop where
 hW:a.base.StaysIn h
 frames:h.FunFrames a.base c
 mt:Mt a Y d h
 de:∀b,bF Y d b->a.base.get? b=none/\b∉cM c
structure Go (e:Cx)(a:List Env)(Y:AH)(c:Addr->Addr)(h:Heap)(d:AH)(δ':Addr->Addr)(h':Heap):Prop where
 ak:bk e a d δ' h'
 bh:dT (bF Y c) (cM a) h h'
 eM:∀b,bF d δ' b->bF Y c b∨h.get? b=none
variable {h h' h'':Heap}
theorem Go.refl (I:bk b c Y a h):Go b c Y a h Y a h:=⟨I,dT.refl ..,λO x=>.inl x⟩
theorem Go.trans (a:Go d e Y f h g δ' h')(b:Go d e g δ' h' i δ'' h''):Go d e Y f h i δ'' h'':=
 ⟨b.ak,a.bh.trans b.bh a.eM,λc x=>(b.eM c x).elim (a.eM c) λl=>.inr (a.bh.bO c l)⟩
inductive Po (base h:Heap)(b:Addr):Prop
 |mk (n:base.get? b=none) (o:Obj) (e:h.get? b=some o) (d:∀a,o.data≠.fields a)
theorem m6 (f:h.FunFrames base a)(b:Addr)(m:b∈cM a):Po base h b:=by
 induction a with
 |nil=>cases m
 |cons l n j=>
  refine dD f λO k i=>lA k λL o d e g c=>?_;unfold cM at m;rw[mK,d] at m;rcases d4.mp m with q|m
  ·exact B q ⟨e,o,g,c⟩
  ·exact j i m
theorem CK (b:a.frame=some L):cM (a::c)=L::cM c:=by unfold cM;exact B mK (B b rfl)
theorem Hf (f:h.FunFrames base l)(k:∀b o,b∈cM l->h.get? b=some o->∃a,h'.get? b=some a/\((∀c,o.data≠.fields c)->∀c,a.data≠.fields c)):h'.FunFrames base l:=by
 induction l with
 |nil=>trivial
 |cons t u r=>refine dD f λi s q=>lA s λL o d j n e=>?_;have k:=(CK d)▸k;exact ai (k L o bP n) λa p g=>aS i (lB L a d j p (g e)) (r q λb o m=>k b o (cn _ m))
theorem zh (I:bk a c Y d h)(k:dT (bF Y d) (cM c) h h'):a.base.StaysIn h'/\h'.FunFrames a.base c:=
 ⟨λb o e=>k.aa b o (I.hW b o e) (λx=>nn (I.de b x).1 e) λm=>by obtain⟨z,O⟩:=m6 I.frames b m;exact nn z e,
  Hf I.frames λb o m e=>by obtain⟨f,q⟩:=k.fr b o e (λx=>(I.de b x).2 m) m;exact aQ _ q (λx=>x)⟩
theorem qP (I:bk b c Y f h)(a:h.get? z=none):b.base.get? z=none/\z∉cM c/\¬bF Y f z:=
 ⟨gu (λo u e=>nn e (I.hW z o u)) a,λm=>by obtain⟨O,o,d,O⟩:=m6 I.frames z m;exact nn a d,λx=>I.mt.bO x a⟩
theorem Go.sZ (I:bk f c Y d h)(g:Go f c Y d h j δ' h')(k:∀b,bF j δ' b->h''.get? b=h'.get? b)(i:∀b o,h.get? b=some o->h''.get? b=h'.get? b)
  (l:∀b,h''.get? b=none->h.get? b=none) (t:cb h' h''):Go f c Y d h j δ' h'':=by
 have K:dT (bF Y d) (cM c) h h'':=⟨l,λb o e n m=>(i b o e).trans (g.bh.aa b o e n m),λb o e n m=>by exact Ke (g.bh.fr b o e n m) λp q=>⟨p,(i b o e).trans q⟩⟩
 have G:=zh I K;exact⟨⟨G.1,G.2,⟨λa o e=>eT.sY e (λO O O=>rfl) k t (g.ak.mt.aa a o e),g.ak.mt.iB,g.ak.mt.inj⟩,g.ak.de⟩,K,g.eM⟩
theorem Go.ext (I:bk d c Y b h)(k:fp h h'):Go d c Y b h Y b h':=by have K:dT (bF Y b) (cM c) h h':=dT.of_keeps k;have G:=zh I K;exact⟨⟨G.1,G.2,⟨λa o e=>(I.mt.aa a o e).pJ (lY k) (k a) λO O O=>⟨rfl,k _⟩,I.mt.iB,I.mt.inj⟩,I.de⟩,K,λO x=>.inl x⟩
theorem Go.s7 (g:Go d i Y A h f δ' h')(r:d.base.get? z=none)(v:h.get? z=none)(s:z∉cM i)(w:¬bF f δ' z)
  (u:eT d δ'' h' z o) (k:∀a,a≠z->δ'' a=δ' a) (j:∀c e,o=.bc c e->d.base.get? (δ'' z)=none/\h.get? (δ'' z)=none/\δ'' z∉cM i/\δ'' z≠z/\¬bF f δ' (δ'' z)):Go d i Y A h (f.set z o) δ'' h':=by
 have l:∀b,bF (f.set z o) δ'' b->bF f δ' b∨(d.base.get? b=none/\b∉cM i)/\h.get? b=none:=λb x=>by
  rcases bF.dA k x with x|q|⟨⟨c,e,t⟩,q⟩
  ·exact .inl x
  ·exact .inr (q▸⟨⟨r,s⟩,v⟩)
  ·exact lz (j c e t) λm n p O=>.inr (q▸⟨⟨m,p⟩,n⟩)
 exact⟨⟨g.ak.hW,g.ak.frames,g.ak.mt.dA w u k (λc e q=>(j c e q).2.2.2) (λO O O x=>x) λO O x=>x,λb x=>(l b x).elim (g.ak.de b) And.left⟩,g.bh,λb x=>(l b x).elim (g.eM b) λy=>.inr y.2⟩
theorem Go.new (I:bk d i Y g h)(f:h.get? z=none)(k:fp h h')
  (m:eT d δ' h' z o) (n:∀a,a≠z->δ' a=g a) (l:∀c b,o=.bc c b->h.get? (δ' z)=none/\δ' z≠z):Go d i Y g h (Y.set z o) δ' h':=by
 exact dD (qP I f) λp r s=>(Go.ext I k).s7 p f r s m n λc b q=>Ka (l c b q) λe j=>dD (qP I e) λt u v=>gm t e u j v
theorem Go.de (I:bk j p Y d h)(r:bF Y d a)(k:Heap.SameBut a h h')(t:h'.get? a≠none)(g:∀b c f,i b=some (.bc c f)->∃c f,Y b=some (.bc c f))(sn:∀b,Y b=none->i b=none)
  (s:∀b o,i b=some o->eT j d h' b o):Go j p Y d h i d h':=by
 have K:dT (bF Y d) (cM p) h h':=⟨λb l=>(k.2 b λq=>t (q▸l)).symm.trans l,λb o e n m=>(k.2 b λq=>n (q▸r)).trans e,λb o e n m=>⟨o.slots,(k.2 b λq=>n (q▸r)).trans e⟩⟩;have G:=zh I K;exact⟨⟨G.1,G.2,I.mt.iC g sn s,λb x=>I.de b (x.He g sn)⟩,K,λb x=>.inl (x.He g sn)⟩
theorem Go.iC (I:bk g j Y f h){a:Addr}(e:Y a=some o)(v:∀c d,o≠.bc c d)(l:∀c d,o'≠.bc c d)(k:Heap.SameBut a h h')
  (i:cb h h'->eT g f h' a o'):Go g j Y f h (Y.set a o') f h':=by
 have t:=mZ k λw t=>I.mt.ze t (qN e);have p:h'.get? a≠none:=by obtain⟨o,m,O⟩:=(i t).kind;exact c0 m
 refine Go.de I (qN e) k p (λb c d x=>?_) (λb x=>AH.vX (λq=>nn (q▸x) e) x) λb r x=>?_
 ·rcases AH.ow x with⟨_,q⟩|⟨_,x⟩
  ·exact(l c d q.symm).elim
  ·exact mH c d x
 ·rcases AH.ow x with⟨s,u⟩|⟨n,x⟩
  ·exact B s (B u (i t))
  ·exact(I.mt.aa b r x).pJ t (λO y=>(k.2 b n).trans y) λc d q=>⟨rfl,λO y=>(k.2 _ λz=>nn (z▸I.mt.iB b c d (x.trans (br some q))) e).trans y⟩
theorem Go.field (I:bk l v Y f h){a:Addr}(e:Y a=some (.bc c i))(k:Heap.SameBut (f a) h h')
  (G:cb h h'->∃g n,h'.get? (f a)=some (dictOf g n)/\ft l.w.params h' g fs'):Go l v Y f h (Y.set a (.bc c fs')) f h':=by
 have t:=mZ k λQ t=>I.mt.ze t (qO e);refine fj (G t) λw J m U=>?_;have p:∀b o,Y b=some o->b≠f a:=λb o x q=>nn (q▸I.mt.iB a c i e) x;refine Go.de I (qO e) k (c0 m) (λb s j x=>?_) (λb x=>AH.vX (λq=>nn (q▸x) e) x) λb r x=>?_
 ·rcases AH.ow x with⟨q,_⟩|⟨_,x⟩
  ·exact mH c i (q▸e)
  ·exact mH s j x
 ·rcases AH.ow x with⟨L,M⟩|⟨n,x⟩
  ·obtain⟨o,g,n,D,A,H,C,N,O⟩:=I.mt.aa a _ e
   exact B L (B M ⟨o,w,J,(k.2 _ (p a _ e)).trans D,A,H,C,m,U⟩)
  ·exact(I.mt.aa b r x).pJ t (λO y=>(k.2 b (p b r x)).trans y) λd j q=>⟨rfl,λO y=>(k.2 _ λu=>n (I.mt.inj b d j a c i (x.trans (br some q)) e u)).trans y⟩
theorem Go.dQ (g:Go a b Y c h d δ' h')(I:bk a b Y c h)(r:ag h v p):ag h' v p:=ag.bU (I.mt.lX g.bh) r
theorem Go.Pp (g:Go a b Y c h d δ' h')(I:bk a b Y c h)(r:aJ h v p):aJ h' v p:=aJ.bU (I.mt.lX g.bh) r
end
section
noncomputable def Pq:List Str:=["read","has","is_folder","walk","file_at","deed","write","rename","remove","copy","check_place","keep","forget","take","put","commit","drop","check_held","octets","path_of","packed","packed_row","loose","raw","chain","resolve","id_of","way_of"]
noncomputable def Pr:List Str:=["loose_names","names","peeled","short_name","apply","set_symbolic","pack","prune_loose","does_go","does_write","planned","check_names","check_value","put_value","rows_left","prepare","abort","append","extend","pop","get","setdefault","split","startswith","endswith","find","strip","join","items"]
def bE.str (m:bE):Str:=(Pq++Pr).getD m.i.val ""
structure eN (A:Around)(H:List Env)(J:Nat)(q:Bool):Prop where
 frames:A.frames=some H
 quiet:q=false->A.handled=none
 depth:A.depth+4*J+10<=999
 units:A.units+20*J+200<=cLine
def kW (h:Heap) (o:Option Value) (p:Option PV):Prop:=∀u,p=some u->∃v,o=some v/\ag h v u
theorem kW.bU (k:cb h b)(r:kW h o p):kW b o p:=λu e=>by exact ai (r u e) λv a r=>aQ v a (ag.bU k r)
inductive lZ (D:Env)(x:Str)(p:Option PV)(h:Heap):Prop
 |dU (k:D.kindOf x=some .local) (m:Str->Option Value) (a:h.Ns D.locals m) (r:kW h (m x) p)
 |cell (k:D.kindOf x=some .cell∨D.kindOf x=some .free) (c:Addr) (v:Option Value) (J:D.cells.lookup x=some c) (b:h.IsCell c v) (r:kW h v p)
structure LR (D:Env)(rs:List (Str×Nat))(Y:AH)(a:Addr->Addr)(b:aP)(h:Heap):Prop where
 kind:D.scope.kind=.function
 af:∀x i,rs.lookup x=some i->i<b.length/\lZ D x (b.getD i none) h
 s8:¬bF Y a D.locals
 lt:h.get? D.locals≠none
 cells:∀x c,D.cells.lookup x=some c->c≠D.locals/\h.get? c≠none/\¬bF Y a c
 pK:∀x c y,D.cells.lookup x=some c->D.cells.lookup y=some c->x=y
 cH:D.globals=mainGlobals
 blt:D.builtins=builtinsNs
section
variable (G:Cx)
inductive Hg (g:Heap)(Y:AH)(i:Addr->Addr)(h:Heap)(a f:Addr)(d:Array Value):Prop
 |no (e:d[1]? =some .none)
 |vY (T:Addr) (b:Obj) (c:Array Value) (e1:d[1]? =some (.ref T)) (e2:T≠a) (j:T≠f) (k:g.get? T=none) (l:¬bF Y i T) (m:h.get? T=some b) (n:b.data=.fields c) (p:3<c.size)
inductive gK (d:Heap)(Y:AH)(f:Addr->Addr)(h:Heap)(a:Addr)(c:Cl)(t:PV):Prop
 |mk (o:Obj) (b:Addr) (g:List DictEntry) (n:Nat) (e:Array Value) (e1:h.get? a=some o) (e2:o.cls=.ref (G.cy c)) (m:o.dict=some b) (p:o.data=.fields e) (r:1<e.size) (s:h.get? b=some (dictOf g n)) (u:ft G.w.params h g [(.dp,t)])
  (v:d.get? a=none) (w:d.get? b=none) (i:a≠b) (j:¬bF Y f a) (k:¬bF Y f b) (l:Hg d Y f h a b e)
noncomputable abbrev aa (s:Shared)(h:Heap)(a:Nat):Shared:={s with heap:=h,toks:=a}
inductive ar {c b:Type}(R:Heap->c->b->Prop)(H:List Env)(Y:AH)(i:Addr->Addr)(s:Shared)(Q:b->AH->Prop)(v:c)(f:Shared):Prop
 |mk (p:b) (d:AH) (j:Addr->Addr) (a:Heap) (h:Nat) (e:f=aa s a h) (g:Go G H Y i s.heap d j a) (r:R a v p) (z:Q p d)
abbrev RB:Heap->Bool->Bool->Prop:=λO a b=>a=b
abbrev RU:Heap->a->Unit->Prop:=λO O O=>True
abbrev bN (H:List Env) (Y:AH) (b:Addr->Addr) (s:Shared) (Q:PV->AH->Prop) (v:Value) (a:Shared):Prop:=ar G ag H Y b s Q v a
abbrev CL (H:List Env) (Y:AH) (b:Addr->Addr) (s:Shared) (Q:Bool->AH->Prop) (v:Bool) (a:Shared):Prop:=ar G RB H Y b s Q v a
abbrev Hh (H:List Env) (Y:AH) (b:Addr->Addr) (s:Shared) (Q:List PV->AH->Prop) (v:List Value) (a:Shared):Prop:=ar G aJ H Y b s Q v a
inductive cD (H:List Env)(Y:AH)(j:Addr->Addr)(s:Shared)(X:XP)(e:Value)(i:Shared):Prop
 |mk (a:Addr) (c:Cl) (t:PV) (d:AH) (h:Addr->Addr) (b:Heap) (tk:Nat) (e1:e=.ref a) (e2:i=aa s b tk) (g:Go G H Y j s.heap d h b) (f:gK G s.heap d h b a c t) (z:X c t d)
def aY:jX:=λq f d Q X Y=>∀(A:Around) (H:List Env) (a:Addr->Addr) (s:Shared) (c:List Value),eN A H (G.ht f) q->bk G H Y a s.heap->aJ s.heap c d->
 codeAny (model G.prog G.w) A (.call (.ref (G.c1 f)) ⟨c,[]⟩) (λr b=>match r with|.ok (.ret v)=>bN G H Y a s Q v b|.ok _=>False|.error e=>cD G H Y a s X e b) s
variable (H:List Env)(D:Env)(rs:List (Str×Nat))(J:Nat)(q:Bool)
structure dR (A:Around)(Y:AH)(a:Addr->Addr)(b:aP)(s:Shared):Prop where
 ok:eN A H J q
 I:bk G H Y a s.heap
 l:LR D rs Y a b s.heap
def Ex (e:Expr) (w:aP->(PV->AH->Prop)->XP->AH->Prop):Prop:=
 ∀(b:aP) (Q:PV->AH->Prop) (X:XP) (Y:AH) (A:Around) (a:Addr->Addr) (s:Shared),dR G H D rs J q A Y a b s->w b Q X Y->
  wpAny (model G.prog G.w) A (eval e D) (bN G H Y a s Q) (cD G H Y a s X) s
def iQ (c:List Expr) (w:aP->(List PV->AH->Prop)->XP->AH->Prop):Prop:=
 ∀(d:Pos) (b:aP) (Q:List PV->AH->Prop) (X:XP) (Y:AH) (A:Around) (a:Addr->Addr) (s:Shared),dR G H D rs J q A Y a b s->w b Q X Y->
  wpAny (model G.prog G.w) A (spliced (backTo d (starEach c D))) (Hh G H Y a s Q) (cD G H Y a s X) s
def Tx (e:Expr) (w:aP->(Bool->AH->Prop)->XP->AH->Prop):Prop:=
 ∀(b:aP) (Q:Bool->AH->Prop) (X:XP) (Y:AH) (A:Around) (a:Addr->Addr) (s:Shared),dR G H D rs J q A Y a b s->w b Q X Y->
  wpAny (model G.prog G.w) A (isTrue e D (eval e D)) (CL G H Y a s Q) (cD G H Y a s X) s
end
variable {rs:List (Str×Nat)}
inductive Pt (h:Heap)(a:Addr)(c:List PV):Prop
 |mk (b:List Value) (l:h.IsList a b.toArray) (r:aJ h b c)
theorem Mt.row (M:Mt G Y f h)(x:G2 (Y a) c):Pt h a c:=by
 cases x with
 |list e=>exact ai (M.aa a _ e) λb l r=>⟨b,l.eG,r⟩
 |ro d e=>exact Br (M.aa a _ e) λe1 b n q r=>⟨b.toList,eL.eG (eL.of (n:=n) (q▸e1)),r h⟩
theorem lZ.pJ (f:∀m,h.Ns D.locals m->a.Ns D.locals m)(e:∀c v,D.cells.lookup x=some c->h.IsCell c v->a.IsCell c v)(t:cb h a)(v:lZ D x p h):lZ D x p a:=by
 cases v with
 |dU k m b r=>exact .dU k m (f m b) (r.bU t)
 |cell k c v J d r=>exact .cell k c v J (e c v J d) (r.bU t)
theorem lZ.go (I:bk G H Y b h)(k:dT (bF Y b) (cM H) h c)(n:¬bF Y b D.locals)(v:lZ D x p h):lZ D x p c:=
 v.pJ (λO d=>k.ns n d) (λO O O a=>k.cell (I.mt.Pm a) a) (I.mt.lX k)
theorem LR.go (l:LR D rs Y a f h)(I:bk G H Y a h)(g:Go G H Y a h j d b):LR D rs j d f b:=
 ⟨l.kind,λx i e=>⟨(l.af x i e).1,(l.af x i e).2.go I g.bh l.s8⟩,λo=>(g.eM _ o).elim l.s8 l.lt,λz=>l.lt (g.bh.bO _ z),
  λx c e=>⟨(l.cells x c e).1,λz=>(l.cells x c e).2.1 (g.bh.bO _ z),λo=>(g.eM _ o).elim (l.cells x c e).2.2 (l.cells x c e).2.1⟩,l.pK,l.cH,l.blt⟩
theorem gK.map (z:∀b,l.get? b=none->h0.get? b=none)(k:∀b o,l.get? b=none->h.get? b=some o->j.get? b=some o)(tp:cb h j)(f:gK G l Y δ h a c t):gK G h0 Y δ j a c t:=by
 obtain⟨o,dx,es,n,vs,m,v,w,x,y,A,C,d,g,p,r,s,u⟩:=f;refine⟨o,dx,es,n,vs,k _ _ d m,v,w,x,y,k _ _ g A,C.bU tp,z _ d,z _ g,p,r,s,?_⟩;cases u with
 |no e=>exact .no e
 |vY T oT ts U I L i M N Q b8=>exact .vY T oT ts U I L (z _ i) M (k _ _ i N) Q b8
theorem gK.zi (z:∀b,g.get? b=none->d.get? b=none)(f:gK G g Y i h a c t):gK G d Y i h a c t:=f.map z (λO O O e=>e) λO O x=>x
section
theorem dR.go (U:dR G H D rs J q A Y b d s)(g:Go G H Y b s.heap e c a):dR G H D rs J q A e c d (aa s a tk):=⟨U.ok,g.ak,U.l.go U.I g⟩
theorem ar.b9 (g:Go G H Y f s.heap j h b)(x:ar G R H j h (aa s b tk) Q v d):ar G R H Y f s Q v d:=by obtain⟨p,k,i,c,e,rfl,a,r,z⟩:=x;exact⟨p,k,i,c,e,rfl,g.trans a,r,z⟩
theorem cD.b9 (g:Go G H Y l s.heap p m h)(x:cD G H p m (aa s h tk) X v j):cD G H Y l s X v j:=by obtain⟨a,c,t,r,n,i,k,b,d,e,f,z⟩:=x;refine B b ?_;refine B d ?_;exact⟨a,c,t,r,n,i,k,rfl,rfl,g.trans e,f.zi g.bh.bO,z⟩
theorem ar.now (I:bk G H Y b s.heap)(r:R s.heap v p)(h:Q p Y)(a:Nat):ar G R H Y b s Q v {s with toks:=a}:=
 ⟨p,Y,b,s.heap,a,rfl,Go.refl I,r,h⟩
theorem ar.here (I:bk G H Y a s.heap)(r:R s.heap v p)(h:Q p Y):ar G R H Y a s Q v s:=
 ⟨p,Y,a,s.heap,s.toks,rfl,Go.refl I,r,h⟩
theorem ar.ext (I:bk G H Y c s.heap)(k:fp s.heap a)(r:R a v p)(h:Q p Y)(b:Nat):
  ar G R H Y c s Q v (aa s a b):=⟨p,Y,c,a,b,rfl,Go.ext I k,r,h⟩
theorem ar.bind {f:m->Sem n}
  (h:wpAny M A t (ar G R H Y d s P) (cD G H Y d s X) s)
  (k:∀v p b e a c,Go G H Y d s.heap b e a->R a v p->P p b->wpAny M A (f v) (ar G j H b e (aa s a c) Q) (cD G H b e (aa s a c) X) (aa s a c)):
  wpAny M A t (λv i=>wpAny M A (f v) (ar G j H Y d s Q) (cD G H Y d s X) i) (cD G H Y d s X) s:=by
 refine bM h (λv i x=>?_) λO O x=>x;obtain⟨p,b,e,a,c,l,g,r,z⟩:=x;refine B l ?_;exact bM (k v p b e a c g r z) (λO O x=>x.b9 g) λO O x=>x.b9 g
theorem ar.map {f:m->n}{g':u->w}
  (h:wpAny M A t (ar G R H Y a s λp Y=>Q (g' p) Y) (cD G H Y a s X) s) (k:∀h v p,R h v p->c h (f v) (g' p)):
  wpAny M A t (λv b=>ar G c H Y a s Q (f v) b) (cD G H Y a s X) s:=by
 refine bM h (λv b x=>?_) λO O x=>x;obtain⟨p,l,j,e,i,d,g,r,z⟩:=x;refine B d ?_;exact⟨g' p,l,j,e,i,rfl,g,k _ _ _ r,z⟩
end
@[elab_as_elim] theorem m7 {C:Value->Prop} (b:ag c a v) (h:v.cu f False) (k:∀(i:Int) (t:Tok),f i->C (.int i t)):C a:=
 ag.casesOn (motive_1:=λa v O=>v.cu f False->C a) b False.elim (λO=>False.elim) k (λO O O O=>False.elim) (λO O O O=>False.elim) (λO=>False.elim) (λO O=>False.elim) h
theorem Pu {v:PV}(h:v.cu f none=some r):v.cu (λi=>f i=some r) False:=by cases v<;>first|exact h|exact nn rfl h
@[elab_as_elim] theorem hY {b:Heap} {f:Int->Option d} {C:Value->Prop} (c:ag b a v) (h:v.cu f none=some r) (k:∀(i:Int) (t:Tok),f i=some r->C (.int i t)):C a:=m7 c (Pu h) k
@[elab_as_elim] theorem s9 {C:Value->Prop} (b:ag c a v) (h:v.hN f False) (k:∀(i:Bool),f i->C (.bool i)):C a:=
 ag.casesOn (motive_1:=λa v O=>v.hN f False->C a) b False.elim k (λO O=>False.elim) (λO O O O=>False.elim) (λO O O O=>False.elim) (λO=>False.elim) (λO O=>False.elim) h
@[elab_as_elim] theorem aez {b:Heap} {f:Bool->Option d} {C:Value->Prop} (c:ag b a v) (h:v.hN f none=some r) (k:∀(i:Bool),f i=some r->C (.bool i)):C a:=s9 c ((by cases v<;>first|exact h|exact nn rfl h)) k
@[elab_as_elim] theorem jd {C:Value->Prop} (b:ag c a v) (h:v.d7 f False) (k:∀(x:Addr),f x->C (.ref x)):C a:=
 ag.casesOn (motive_1:=λa v O=>v.d7 f False->C a) b False.elim (λO=>False.elim) (λO O=>False.elim) (λO O O O=>False.elim) (λO O O O=>False.elim) k (λO O=>False.elim) h
@[elab_as_elim] theorem zj {b:Heap} {f:Addr->Option d} {C:Value->Prop} (c:ag b a v) (h:v.d7 f none=some r) (k:∀(x:Addr),f x=some r->C (.ref x)):C a:=jd c ((by cases v<;>first|exact h|exact nn rfl h)) k
@[elab_as_elim] theorem Hi {C:Value->Prop} (b:ag c a v) (h:v.d6 f False) (k:∀(x:Str) (t:Tok) (l:Bs),x.cps.toList=l->f l->C (.str x t)):C a:=
 ag.casesOn (motive_1:=λa v O=>v.d6 f False->C a) b False.elim (λO=>False.elim) (λO O=>False.elim) (λx t O e=>k x t _ e) (λO O O O=>False.elim) (λO=>False.elim) (λO O=>False.elim) h
@[elab_as_elim] theorem vZ {b:Heap} {f:Bs->Option d} {C:Value->Prop} (c:ag b a v) (h:v.d6 f none=some r) (k:∀(x:Str) (t:Tok) (l:Bs),x.cps.toList=l->f l=some r->C (.str x t)):C a:=Hi c ((by cases v<;>first|exact h|exact nn rfl h)) k
@[elab_as_elim] theorem Hj {C:Value->Prop} (b:ag c a v) (h:v.lR f False) (k:∀(x:Array UInt8) (t:Tok) (l:Bs),x.toList.map UInt8.toNat=l->f l->C (.bytes x t)):C a:=
 ag.casesOn (motive_1:=λa v O=>v.lR f False->C a) b False.elim (λO=>False.elim) (λO O=>False.elim) (λO O O O=>False.elim) (λx t O e=>k x t _ e) (λO=>False.elim) (λO O=>False.elim) h
@[elab_as_elim] theorem Hk {b:Heap} {f:Bs->Option d} {C:Value->Prop} (c:ag b a v) (h:v.lR f none=some r) (k:∀(x:Array UInt8) (t:Tok) (l:Bs),x.toList.map UInt8.toNat=l->f l=some r->C (.bytes x t)):C a:=Hj c ((by cases v<;>first|exact h|exact nn rfl h)) k
@[elab_as_elim] theorem zk {C:Value->Prop} (i:ag b a v) (h:v.jW f False) (k:∀(x:Addr) (d:List Value) (c:List PV),IsTup b x d.toArray->aJ b d c->f c->C (.ref x)):C a:=
 ag.casesOn (motive_1:=λa v O=>v.jW f False->C a) i False.elim (λO=>False.elim) (λO O=>False.elim) (λO O O O=>False.elim) (λO O O O=>False.elim) (λO=>False.elim) (λg e=>k _ _ _ g e) h
@[elab_as_elim] theorem Pw {b:Heap} {f:List PV->Option g} {C:Value->Prop} (e:ag b a v) (h:v.jW f none=some r) (k:∀(x:Addr) (d:List Value) (c:List PV),IsTup b x d.toArray->aJ b d c->f c=some r->C (.ref x)):C a:=zk e ((by cases v<;>first|exact h|exact nn rfl h)) k
@[elab_as_elim] theorem tc {C:Value->Prop} (b:ag c a v) (h:v.iw f False) (k:f->C (.none)):C a:=
 ag.casesOn (motive_1:=λa v O=>v.iw f False->C a) b k (λO=>False.elim) (λO O=>False.elim) (λO O O O=>False.elim) (λO O O O=>False.elim) (λO=>False.elim) (λO O=>False.elim) h
@[elab_as_elim] theorem Hl {b:Heap} {f:Option d} {C:Value->Prop} (c:ag b a v) (h:v.iw f none=some r) (k:f=some r->C (.none)):C a:=tc c ((by cases v<;>first|exact h|exact nn rfl h)) k
theorem zm (i:∀p a,f p=some a->p=g a)(h:pE f b=some c):b=c.map g:=by
 induction b generalizing c with
 |nil=>refine az (bo h) ?_;rfl
 |cons p b j=>refine ai (BA.mp h) λa d h=>ai (fW.mp h) λl e h=>az h (B (i p a d) (B (j e) ?_));rfl
theorem CM (h:kR c=some b):c=b.map .str:=zm (λp a e=>by cases p<;>first|exact nn rfl e|exact br PV.str (bo e)) h
theorem CN (h:mW c=some b):c=b.map .bytes:=zm (λp a e=>by cases p<;>first|exact nn rfl e|exact br PV.bytes (bo e)) h
theorem Py (h:vR c=some b):c=b.map .int:=zm (λp a e=>by cases p<;>first|exact nn rfl e|exact br PV.int (bo e)) h
theorem Hm (h:vS c=some b):c=b.map .bool:=zm (λp a e=>by cases p<;>first|exact nn rfl e|exact br PV.bool (bo e)) h
theorem aJ.qQ {C:List Value->List k->Prop}(n:C [] [])(c:∀{v a h f},ag i v (g a)->aJ i h (f.map g)->C h f->C (v::h) (a::f))(r:aJ i h (f.map g)):C h f:=
 r.ph (C:=λh j=>∀f:List k,j=f.map g->C h f) (λf=>List.casesOn f (λO=>n) λO O e=>(by injection e)) (λ{v p h j} a b d f=>List.casesOn f (λe=>(by injection e)) λx l e=>c ((List.cons.inj e).1▸a) ((List.cons.inj e).2▸b) (d l (List.cons.inj e).2)) f rfl
@[elab_as_elim] theorem Pz {C:Value->Prop} (b:ag c a (.int i)) (k:∀t,C (.int i t)):C a:=m7 (f:=λj=>∀t,C (.int j t)) b k λO t h=>h t
@[elab_as_elim] theorem PA {C:Value->Prop} (c:ag d a (.bool b)) (k:C (.bool b)):C a:=s9 (f:=λj=>C (.bool j)) c k λO h=>h
@[elab_as_elim] theorem v9 {C:Value->Prop} (b:ag c a (.str l)) (k:∀x t,x.cps.toList=l->C (.str x t)):C a:=Hi (f:=λl=>∀(x:Str) (t:Tok),x.cps.toList=l->C (.str x t)) b k λx t O e h=>h x t e
@[elab_as_elim] theorem zo {C:Value->Prop} (b:ag c a (.bytes l)) (k:∀x t,x.toList.map UInt8.toNat=l->C (.bytes x t)):C a:=Hj (f:=λl=>∀(x:Array UInt8) t,x.toList.map UInt8.toNat=l->C (.bytes x t)) b k λx t O e h=>h x t e
@[elab_as_elim] theorem PB {C:Value->Prop} (b:ag c a (.ref x)) (k:C (.ref x)):C a:=jd (f:=λj=>C (.ref j)) b k λO h=>h
@[elab_as_elim] theorem aeA {C:Value->Prop} (b:ag c a .none) (k:C .none):C a:=tc (f:=C .none) b k id
@[elab_as_elim] theorem aeB {C:Value->Prop} (g:ag c a (.av d)) (k:∀x b,IsTup c x b.toArray->aJ c b d->C (.ref x)):C a:=zk (f:=λd=>∀x (b:List Value),IsTup c x b.toArray->aJ c b d->C (.ref x)) g k λx b O f e h=>h x b f e
@[elab_as_elim] theorem Hn {C:List Value->Prop} (rs:aJ c b a) (h:zero f False a) (k:f->C []):C b:=
 aJ.casesOn (motive_2:=λb a O=>zero f False a->C b) rs k (λO O=>False.elim) h
@[elab_as_elim] theorem kX {C:List Value->Prop} (rs:aJ c b a) (h:a8 f False a) (k:∀v p,ag c v p->f p->C [v]):C b:=
 aJ.casesOn (motive_2:=λb a O=>a8 f False a->C b) rs False.elim (λ{v p _ _} e d=>aJ.casesOn (motive_2:=λb a O=>a8 f False (p::a)->C (v::b)) d (k v p e) λO O=>False.elim) h
theorem PC (h:a8 f none a=some r):a8 (λp=>f p=some r) False a:=by
 cases a with
 |nil=>exact nn rfl h
 |cons p q=>cases q with
  |nil=>exact h
  |cons O O=>exact nn rfl h
@[elab_as_elim] theorem kY {f:PV->Option d} {C:List Value->Prop} (rs:aJ a c b) (h:a8 f none b=some r) (k:∀v p,ag a v p->f p=some r->C [v]):C c:=kX rs (PC h) k
@[elab_as_elim] theorem CO {C:List Value->Prop} (rs:aJ c b a) (h:jy f False a) (k:∀v p u q,ag c v p->ag c u q->f p q->C [v,u]):C b:=
 aJ.casesOn (motive_2:=λb a O=>jy f False a->C b) rs False.elim (λ{v p _ _} g d h=>kX (f:=f p) (C:=λr=>C (v::r)) d h λu q e h=>k v p u q g e h) h
end
section
variable {s:Shared}{E:Value->Shared->Prop}
theorem gx [Decidable c]{r:a}{P:Prop}(h:(if c then x else none)=some r)(k:c->x=some r->P):P:=by
 by_cases q:c
 ·exact k q ((aG q).symm.trans h)
 ·exact nn (aH q) h
theorem sQ {Q:PV->AH->Prop}(h:some a=some b)(k:Q b Y):Q a Y:=(Option.some.inj h).symm▸k
theorem Str.Ho {x y:Str}:(x==y)=(x.cps.toList==y.cps.toList):=by
 by_cases h:x=y
 ·subst h;simp
 ·exact B (eA.mpr h) (B (eA.mpr (λe=>h (by cases x;cases y;simpa using e))) rfl)
theorem Hp {b c:List UInt8}:(b==c)=(b.map UInt8.toNat==c.map UInt8.toNat):=by
 have inj:∀b c:List UInt8,b.map UInt8.toNat=c.map UInt8.toNat->b=c:=by
  intro b
  induction b with
  |nil=>intro c h;cases c<;>simp_all
  |cons x b a=>intro c h;cases c with
   |nil=>simp at h
   |cons y c=>simp at h;exact B (UInt8.toNat_inj.mp h.1) (B (a c h.2) rfl)
 by_cases h:b=c
 ·subst h;simp
 ·exact B (eA.mpr h) (B (eA.mpr λe=>h (inj _ _ e)) rfl)
theorem PD (h:0<=a):Builtin.bitAnd a 15=a%16:=by unfold Builtin.bitAnd;refine B (f3 h:decide (0<=a)=true) (B (rfl:decide ((0:Int)<=15)=true) (?_:((a.toNat&&&15:Nat):Int)=a%16));rw[show(15:Nat)=2^4-1 from rfl,Nat.and_two_pow_sub_one_eq_mod,Int.natCast_emod,yq h];rfl
theorem ox {x:Str}(e:x.cps.toList=l):x.length=l.length:=by subst e;simp[Str.length]
theorem qR {x:Array UInt8}(e:x.toList.map UInt8.toNat=l):x.size=l.length:=by subst e;simp
theorem PF {x y:Str}(c:x.cps.toList=a)(e:y.cps.toList=b):(x++y).cps.toList=a++b:=by subst c e;show(x.cps++y.cps).toList=_;simp
theorem zr (h:fits l=true):l.length<=16000000:=of_decide_eq_true h
section
variable (I:bk m d Y w s.heap)
include I
theorem Hq (a:s.heap.get? z=none):Y z=none:=by exact zg λx=>I.mt.bO x a
theorem ar.fv (f:s.heap.get? z=none)(k:fp s.heap b)(i:∀c a,ao≠.bc c a)(j:eT m w b z ao)(h:bw Y ao Q)(g:Nat):
  bN m d Y w s Q (.ref z) (aa s b g):=
 ⟨_,_,w,_,g,rfl,Go.new I f k j (λO O=>rfl) (λc a e=>absurd e (i c a)),.ref _,h _ (Hq I f)⟩
theorem ar.push (g:∀c f,ao≠.bc c f)(i:eT m w (s.heap.push o) s.heap.objs.size ao)(h:bw Y ao Q)(a:Nat):
  bN m d Y w s Q (.ref s.heap.objs.size) (aa s (s.heap.push o) a):=
 ar.fv I (fY (dE _)) (λb j e=>cR _ e) g i h a
theorem ar.zt (i:s.heap.get? z=none)(k:fp s.heap a)(f:eL a z vs.toArray)(g:aJ s.heap vs ps)(h:bw Y (.list ps) Q)(b:Nat):
  bN m d Y w s Q (.ref z) (aa s a b):=
 ar.fv (ao:=.list ps) I i k (λc j e=>bS.noConfusion e) (aQ vs f (aJ.bU (lY k) g)) h b
theorem ar.list (f:aJ s.heap vs ps)(h:bw Y (.list ps) Q)(a:Nat):
  bN m d Y w s Q (.ref s.heap.objs.size) (aa s (s.heap.push {cls:=.type "list",data:=.seq vs.toArray}) a):=
 ar.push (ao:=.list ps) (o:={cls:=.type "list",data:=.seq vs.toArray}) I (λc g e=>bS.noConfusion e) (aQ vs (eL.of (n:=0) (eK _ rfl)) (aJ.bU (lY λb i e=>cR _ e) f)) h a
@[elab_as_elim] theorem pL (e:ag s.heap a u) (g:ag s.heap b v) (h:oi f u v=some r) {P:Value->Value->Prop} (k:∀i t j c,f i j=some r->P (.int i t) (.int j c)):P a b:=
 hY e h λi t h=>hY g h λj c h=>k i t j c h
theorem PG {u v r:PV}(p:ag s.heap a u)(n:ag s.heap b v)(h:GR u v=some r)(g:Q r Y):
  wpAny (model m.prog m.w) A (binaryOp .Add a b) (bN m d Y w s Q) E s:=by
 induction p using ag.casesOn with
 |int i t=>exact hY n h λj f h=>PyProof.Rows.add_int (ar.now I (.int _ _) (sQ h g) _)
 |str x t c=>exact vZ n h λy f l e h=>gx h λk h=>PyProof.Rows.add_str (λf q=>ar.now I (.str _ _ (PF c e)) (sQ h g) _) (B (ox c) (B (ox e) (az bR (aw (zr k) (bl)))))
 |bytes x t c=>exact Hk n h λy f l e h=>gx h λk h=>KBy.add_bytes (B (qR c) (B (qR e) (az bR (aw (zr k) (bl))))) (λf q=>ar.now I (.bytes _ _ (by refine az c (az e ?_);simp)) (sQ h g) _)
 |_=>exact nn rfl h
theorem PH (o:hJ){u v r:PV}(f:ag s.heap a u)(g:ag s.heap b v)(h:vP o u v=some r)(e:Q r Y):
  wpAny (model m.prog m.w) A (binaryOp o.op a b) (bN m d Y w s Q) E s:=by
 cases o with
 |add=>exact PG I f g h e
 |sub=>exact pL I f g h λi t j l h=>PyProof.Rows.sub_int (ar.now I (.int _ _) (sQ h e) _)
 |mul=>exact pL I f g h λi t j l h=>gx h λc h=>PyProof.Rows.mul_int (ar.now I (.int _ _) (sQ h e) _) (c.elim (λk=>IntMulOk.of_left (intBits_le_64 k.1 k.2)) λk=>IntMulOk.of_right (intBits_le_64 k.1 k.2))
 |fdiv=>exact pL I f g h λi t j l h=>gx h λc h=>PyProof.Rows.floordiv_int (Int.ne_of_gt c.1) (ar.now I (.int _ _) (sQ ((br (λx=>some (PV.int x)) (Int.fdiv_eq_ediv_of_nonneg i (lK c.1))).trans h) e) _) (.inl (PyProof.noPylong_small (f5.mp (B (Int.natAbs_of_nonneg (lK c.1)) c.2))))
 |mod=>exact pL I f g h λi t j l h=>gx h λc h=>PyProof.Rows.mod_int (Int.ne_of_gt c) (ar.now I (.int _ _) (sQ ((br (λx=>some (PV.int x)) (Int.fmod_eq_emod_of_nonneg i (lK c))).trans h) e) _)
 |vw=>exact pL I f g h λi t j l h=>gx h λc h=>by exact B c.2 (PyProof.Rows.rshift_int dc (ar.now I (.int _ _) (sQ ((br (λx=>some (PV.int x)) (by rw[Int.fdiv_eq_ediv_of_nonneg _ dc];rfl)).trans h) e) _))
 |vx=>exact pL I f g h λi t j l h=>gx h λc h=>by exact B c.2 (PyProof.Rows.and_int (ar.now I (.int _ _) (sQ ((br (λx=>some (PV.int x)) (PD c.1)).trans h) e) _))
theorem PI (o:hJ)(k:ag s.heap a u)(l:ag s.heap b v)(h:iA o u v Q Y):
  wpAny (model m.prog m.w) A (binaryOp o.op a b) (bN m d Y w s Q) E s:=by
 unfold iA at h;cases c:vP o u v with
 |some r=>rw[c] at h;exact PH I o k l c h
 |none=>
  rw[c] at h;refine B h.1 (jd k h.2 λx h=>jd l h λy h=>qK h λG t h=>qK h λU z h=>ai (I.mt.aa x _ t) λp H i=>ai (I.mt.aa y _ z) λq C j=>Ke H.vW λn f=>Ke C.vW λD g=>?_);have e:=h.1;rw[bR,←i.length,←j.length] at e;refine concat_meets (aQ _ f rfl) (aQ _ g rfl) noFill_list_add seq_list_add PySem.F.slot_list_add PySem.F.entry_list_add (PySem.F.args_list_add_2 _ _)
   (list_addW x y p.toArray q.toArray n D none none #[] #[] (B ei (B ei (aw e dc)))) (aS f g ?_)
  exact B (List.append_toArray p q) (ar.list I (i.append j) h.2 _)
end
end
namespace eU
theorem zu:Slot "bytes" (cmpInfo .Eq).2.2 "bytes.__eq__":=
 .of (owner:="bytes") (n:="__eq__") (by rw[qx,qt];kernel_rfl) (by decide+kernel) (by decide+kernel) (by decide+kernel)
  (.inl (by decide+kernel)) (by rw[qz];kernel_rfl)
theorem zv:Slot "bytes" (cmpInfo .NotEq).2.2 "bytes.__ne__":=
 .of (owner:="bytes") (n:="__ne__") (by rw[qx,qt];kernel_rfl) (by decide+kernel) (by decide+kernel) (by decide+kernel)
  (.inl (by decide+kernel)) (by rw[qz];kernel_rfl)
theorem Hr (b:Array UInt8)(t:Tok):Gives (Builtin.«bytes.__eq__» ⟨[.bytes b t,.none],[]⟩) (.val .notImplemented):=
 .of_wp λM A E s Q h=>by obtain⟨c,g,d,e,os⟩:=s;have a:=yw;wp_walk;exact⟨_,rfl,h⟩
theorem Hs (b:Array UInt8)(t:Tok)(x:Str)(u:Tok):Gives (Builtin.«bytes.__eq__» ⟨[.bytes b t,.str x u],[]⟩) (.val .notImplemented):=
 .of_wp λM A E s Q h=>by obtain⟨c,g,d,e,os⟩:=s;have a:=F.sub_str_bytes;wp_walk;exact⟨_,rfl,h⟩
theorem Ht (b:Array UInt8)(t:Tok):Gives (Builtin.«bytes.__ne__» ⟨[.bytes b t,.none],[]⟩) (.val .notImplemented):=
 .of_wp λM A E s Q h=>by obtain⟨c,g,d,e,os⟩:=s;have a:=yw;wp_walk;exact⟨_,rfl,h⟩
theorem Hu (b:Array UInt8)(t:Tok)(x:Str)(u:Tok):Gives (Builtin.«bytes.__ne__» ⟨[.bytes b t,.str x u],[]⟩) (.val .notImplemented):=
 .of_wp λM A E s Q h=>by obtain⟨c,g,d,e,os⟩:=s;have a:=F.sub_str_bytes;wp_walk;exact⟨_,rfl,h⟩
theorem Hv (b:Array UInt8)(t:Tok):Gives (Builtin.«NoneType.__eq__» ⟨[.none,.bytes b t],[]⟩) (.val .notImplemented):=.of_eq rfl
theorem Hw (b:Array UInt8)(t:Tok):Gives (Builtin.«NoneType.__ne__» ⟨[.none,.bytes b t],[]⟩) (.val .notImplemented):=.of_eq rfl
theorem Hx (x:Str)(u:Tok)(b:Array UInt8)(t:Tok):Gives (Builtin.«str.__eq__» ⟨[.str x u,.bytes b t],[]⟩) (.val .notImplemented):=
 .of_wp λM A E s Q h=>by obtain⟨c,g,d,e,os⟩:=s;have a:=F.sub_bytes_str;wp_walk;exact⟨_,rfl,h⟩
theorem Hy (x:Str)(u:Tok)(b:Array UInt8)(t:Tok):Gives (Builtin.«str.__ne__» ⟨[.str x u,.bytes b t],[]⟩) (.val .notImplemented):=
 .of_wp λM A E s Q h=>by obtain⟨c,g,d,e,os⟩:=s;have a:=F.sub_bytes_str;wp_walk;exact⟨_,rfl,h⟩
end eU
structure l5 (A:Around)(s:Shared)(a b:Value)(r:Bool):Prop where
 eq:EqAt A s a b r
 rc:RcAt A s a b r
 ne:RcNeAt A s a b (!r)
section
theorem PJ (b:Array UInt8)(t:Tok):l5 A s (.bytes b t) .none false:=by
 have d:RcAt A s (.bytes b t) .none false:=λc w E Q h=>
  rc_eq_decline_or (k:=false) (cY s b t) rfl dc yw FB.slot_bytes_eq F.slot_NoneType_eq_refl
   (λO a=>gq FB.slot_bytes_eq (cY s b t) FB.entry_bytes_eq (yD _ _) (eU.Hr b t) a)
   (λO a=>gq F.slot_NoneType_eq_refl rfl F.entry_NoneType_eq (F.args_NoneType_eq_2 _ _) (eU.Hv b t) a)
   (λO a=>cG (rfl:isSame (.bytes b t) .none=pure false) a) (.inl rfl) h
 have f:RcNeAt A s (.bytes b t) .none true:=λc w E Q h=>
  rc_ne_decline_or (k:=false) (cY s b t) rfl dc yw FB.slot_bytes_ne F.slot_NoneType_ne_refl
   (λO a=>gq FB.slot_bytes_ne (cY s b t) FB.entry_bytes_ne (yC _ _) (eU.Ht b t) a)
   (λO a=>gq F.slot_NoneType_ne_refl rfl F.entry_NoneType_ne (F.args_NoneType_ne_2 _ _) (eU.Hw b t) a)
   (λO a=>cG (rfl:isSame (.bytes b t) .none=pure false) a) (.inl rfl) h
 exact⟨λc w E Q h=>(dm (wpAny_ite_split (λe=>absurd (eq_of_beq e) (by intros;contradiction)) (λO=>ae (d c w E _ (kK h))))),d,f⟩
theorem PK (b:Array UInt8)(t:Tok):l5 A s .none (.bytes b t) false:=by
 have d:RcAt A s .none (.bytes b t) false:=λc w E Q h=>
  rc_eq_decline_or (k:=false) rfl (cY s b t) dc F.sub_bytes_NoneType F.slot_NoneType_eq eU.zu
   (λO a=>gq F.slot_NoneType_eq rfl F.entry_NoneType_eq (F.args_NoneType_eq_2 _ _) (eU.Hv b t) a)
   (λO a=>gq eU.zu (cY s b t) FB.entry_bytes_eq (yD _ _) (eU.Hr b t) a)
   (λO a=>cG (rfl:isSame .none (.bytes b t)=pure false) a) (.inl rfl) h
 have f:RcNeAt A s .none (.bytes b t) true:=λc w E Q h=>
  rc_ne_decline_or (k:=false) rfl (cY s b t) dc F.sub_bytes_NoneType F.slot_NoneType_ne eU.zv
   (λO a=>gq F.slot_NoneType_ne rfl F.entry_NoneType_ne (F.args_NoneType_ne_2 _ _) (eU.Hw b t) a)
   (λO a=>gq eU.zv (cY s b t) FB.entry_bytes_ne (yC _ _) (eU.Ht b t) a)
   (λO a=>cG (rfl:isSame .none (.bytes b t)=pure false) a) (.inl rfl) h
 exact⟨λc w E Q h=>(dm (wpAny_ite_split (λe=>absurd (eq_of_beq e) (by intros;contradiction)) (λO=>ae (d c w E _ (kK h))))),d,f⟩
theorem PL (b:Array UInt8)(t:Tok)(x:Str)(u:Tok):l5 A s (.bytes b t) (.str x u) false:=by
 have d:RcAt A s (.bytes b t) (.str x u) false:=λc w E Q h=>
  rc_eq_decline_or (k:=false) (cY s b t) (jS s x u) dc F.sub_str_bytes FB.slot_bytes_eq F.slot_str_eq_refl
   (λO a=>gq FB.slot_bytes_eq (cY s b t) FB.entry_bytes_eq (yD _ _) (eU.Hs b t x u) a)
   (λO a=>gq F.slot_str_eq_refl (jS s x u) F.entry_str_eq (F.args_str_eq_2 _ _) (eU.Hx x u b t) a)
   (λO a=>cG (rfl:isSame (.bytes b t) (.str x u)=pure false) a) (.inl rfl) h
 have f:RcNeAt A s (.bytes b t) (.str x u) true:=λc w E Q h=>
  rc_ne_decline_or (k:=false) (cY s b t) (jS s x u) dc F.sub_str_bytes FB.slot_bytes_ne F.slot_str_ne_refl
   (λO a=>gq FB.slot_bytes_ne (cY s b t) FB.entry_bytes_ne (yC _ _) (eU.Hu b t x u) a)
   (λO a=>gq F.slot_str_ne_refl (jS s x u) F.entry_str_ne (F.args_str_ne_2 _ _) (eU.Hy x u b t) a)
   (λO a=>cG (rfl:isSame (.bytes b t) (.str x u)=pure false) a) (.inl rfl) h
 exact⟨λc w E Q h=>(dm (wpAny_ite_split (λe=>absurd (eq_of_beq e) (by intros;contradiction)) (λO=>ae (d c w E _ (kK h))))),d,f⟩
theorem PM (x:Str)(u:Tok)(b:Array UInt8)(t:Tok):l5 A s (.str x u) (.bytes b t) false:=by
 have d:RcAt A s (.str x u) (.bytes b t) false:=λc w E Q h=>
  rc_eq_decline_or (k:=false) (jS s x u) (cY s b t) dc F.sub_bytes_str F.slot_str_eq eU.zu
   (λO a=>gq F.slot_str_eq (jS s x u) F.entry_str_eq (F.args_str_eq_2 _ _) (eU.Hx x u b t) a)
   (λO a=>gq eU.zu (cY s b t) FB.entry_bytes_eq (yD _ _) (eU.Hs b t x u) a)
   (λO a=>cG (rfl:isSame (.str x u) (.bytes b t)=pure false) a) (.inl rfl) h
 have f:RcNeAt A s (.str x u) (.bytes b t) true:=λc w E Q h=>
  rc_ne_decline_or (k:=false) (jS s x u) (cY s b t) dc F.sub_bytes_str F.slot_str_ne eU.zv
   (λO a=>gq F.slot_str_ne (jS s x u) F.entry_str_ne (F.args_str_ne_2 _ _) (eU.Hy x u b t) a)
   (λO a=>gq eU.zv (cY s b t) FB.entry_bytes_ne (yC _ _) (eU.Hu b t x u) a)
   (λO a=>cG (rfl:isSame (.str x u) (.bytes b t)=pure false) a) (.inl rfl) h
 exact⟨λc w E Q h=>(dm (wpAny_ite_split (λe=>absurd (eq_of_beq e) (by intros;contradiction)) (λO=>ae (d c w E _ (kK h))))),d,f⟩
theorem PN (b:Array UInt8)(t:Tok)(c:Array UInt8)(u:Tok):l5 A s (.bytes b t) (.bytes c u) (b.toList==c.toList):=
 ⟨λa w E Q d=>eqBool_bytes (by rw[show decide (b.toList=c.toList)=(b.toList==c.toList) by rw[mM];simp];exact d),λa w E Q h=>W.eq_bytes h,λa w E Q h=>W.ne_bytes (by rw[bne];exact h)⟩
theorem PO {l:List (Option Bool)}{r:Bool}(h:sM l=some r):∃a:List Bool,l=a.map some/\r=a.all id:=by
 induction l generalizing r with
 |nil=>exact aQ [] rfl ((bo h).symm)
 |cons x l e=>
  cases x with
  |none=>injection h
  |some b=>exact ai (fW.mp h) λi c d=>ai (e c) λa f g=>aQ (b::a) (br (some b::·) f) (d.symm.trans (br (b&&·) g))
theorem aJ.at {h:Heap}{c:List Value}{b:List PV}(r:aJ h c b):∀j (e:j<c.length) (f:j<b.length),ag h c[j] b[j]:=
 r.ph (C:=λc b=>∀j (e:j<c.length) (f:j<b.length),ag h c[j] b[j]) (λO e=>absurd e (Nat.not_lt_zero _)) λa O d j=>Nat.casesOn j (λO O=>a) λj e f=>d j (Nat.lt_of_succ_lt_succ e) (Nat.lt_of_succ_lt_succ f)
theorem Hz {f:PV->PV->Option Bool}{c d:List PV}{a:List Bool}(e:List.zipWith f c d=a.map some)(j:Nat)(g:j<c.length)(h:j<d.length):f c[j] d[j]=some (a.getD j true):=by
 have e1:=br (·[j]?) e;simp only[List.getElem?_zipWith,List.getElem?_map,List.getElem?_eq_getElem g,List.getElem?_eq_getElem h] at e1;refine B (o3) ?_;cases q:a[j]? with
 |none=>rw[q] at e1;exact nn e1 rfl
 |some b=>rw[q] at e1;exact bo e1
theorem CP {f:PV->PV->Option Bool}{b c:List PV}{a:List Bool}(e:List.zipWith f b c=a.map some):a.length=min b.length c.length:=by have:=br List.length e;simpa using this.symm
theorem range_all (a:List Bool)(m:Nat)(f:m=a.length):(List.range m).all (λj=>a.getD j true)=a.all id:=by
 rw[f,mM,bI,bI];constructor
 ·intro h b e
  obtain⟨i,c,q⟩:=List.mem_iff_getElem.mp e;have:=h i (ik.mpr c);rw[o3,rW c] at this;exact q▸this
 ·exact λh j d=>B (o3) (B (rW (ik.mp d)) (h _ (List.getElem_mem (ik.mp d))))
end
section
theorem zx {c:Type}[BEq c][LawfulBEq c]{a b:c}{r:Bool}(e:some (a==b)=some r)(h:a=b):r=true:=by have e:=Option.some.inj e;exact az e (B h (ej _))
inductive zy (h:Heap)(x:Addr)(v:PV):Prop
 |ref (e:v=.ref x)
 |av (vs:List Value) (a:List PV) (e:v=.av a) (c:IsTup h x vs.toArray) (b:aJ h vs a)
def HA (h:Heap) (a:Value) (v:PV):Prop:=match a with
 |.none=>v=.none
 |.bool b=>v=.bool b
 |.int i _=>v=.int i
 |.str x _=>v=.str x.cps.toList
 |.bytes b _=>v=.bytes (b.toList.map UInt8.toNat)
 |.ref x=>zy h x v
 |_=>False
theorem ag.ak {h:Heap}{a:Value}{v:PV}(r:ag h a v):HA h a v:=
 ag.casesOn (motive_1:=λa v O=>HA h a v) r rfl (λO=>rfl) (λO O=>rfl) (λO O O e=>br PV.str e.symm) (λO O O e=>br PV.bytes e.symm) (λO=>.ref rfl) λc b=>.av _ _ rfl c b
theorem te {h:Heap}{u v:PV}{r:Bool}{a:Value}(e:vQ u v=some r)(f:ag h a u)(c:ag h a v):r=true:=by
 induction f using ag.casesOn with
 |none=>rw[show v=.none from c.ak] at e;exact(bo e).symm
 |bool b=>rw[show v=.bool b from c.ak] at e;exact zx e rfl
 |int i t=>rw[show v=.int i from c.ak] at e;exact zx e rfl
 |str x t d=>rw[show v=.str x.cps.toList from c.ak] at e;exact zx e d.symm
 |bytes x t d=>rw[show v=.bytes (x.toList.map UInt8.toNat) from c.ak] at e;exact zx e d.symm
 |ref x=>exact nn rfl e
 |av j g=>
  cases(c.ak:zy h _ v) with
  |ref q=>rw[q] at e;exact nn rfl e
  |av l k q O O=>rw[q] at e;exact nn rfl e
theorem PQ {h:Heap}{x:Addr}{a b:List Value}(g:IsTup h x a.toArray)(i:IsTup h x b.toArray):a=b:=by exact oY g λo e O k c=>oY i λl f O j d=>List.toArray_inj (Data.seq.inj (c.symm.trans ((ss e f)▸d))).1
theorem CQ {f:PV->PV->Option Bool}{b c:List PV}{r:Bool}(e:kQ f b c=some r):∃a:List Bool,List.zipWith f b c=a.map some/\r=(a.all id&&b.length==c.length):=by exact ai (fW.mp e) λh e1 d=>ai (PO e1) λa e2 g=>aQ a e2 (az d (B g rfl))
theorem PR {h:Heap}(n:Nat):∀{u v:PV} {r:Bool} {a:Value},eS Y n u v=some r->ag h a u->ag h a v->r=true:=by
 induction n with
 |zero=>exact te
 |succ n G=>
  intro u v r a e U c
  induction U using ag.casesOn with
  |ref x=>
   cases(c.ak:zy h x v) with
   |ref q=>rw[q] at e;exact nn (aG rfl:(if x=x then none else _)=none) e
   |av O O q O O=>rw[q] at e;exact nn rfl e
  |@av x J w C f=>
   cases(c.ak:zy h x v) with
   |ref q=>rw[q] at e;exact nn rfl e
   |av L y q D m=>rw[q] at e;rw[←PQ C D] at m;refine ai (CQ (f:=eS Y n) e) λI e2 z=>?_;have l:w.length=y.length:=f.length.symm.trans m.length;rw[z,l,ej,Bool.and_true,bI];intro b A;obtain⟨j,p,H⟩:=List.mem_iff_getElem.mp A;have s:=CP e2;rw[l,Nat.min_self] at s;have k:j<y.length:=s▸p;have d:j<w.length:=l▸k;have:=Hz e2 j d k;rw[o3,rW p] at this;exact H▸G this (f.at j (f.length▸d) d) (m.at j (f.length▸d) k)
  |none=>exact te (u:=.none) (v:=v) e .none c
  |bool b=>exact te (u:=(.bool b)) (v:=v) e (.bool b) c
  |int i t=>exact te (u:=(.int i)) (v:=v) e (.int i t) c
  |str x t g=>exact te (u:=(.str _)) (v:=v) e (.str x t g) c
  |bytes x t g=>exact te (u:=(.bytes _)) (v:=v) e (.bytes x t g) c
end
section
theorem zA (t:IsTup h a b):h.IsTuple a b:=t
theorem sE (e:some c=some r)(k:l5 A s a b c):l5 A s a b r:=Option.some.inj e▸k
theorem kZ (e:vQ u v=some r)(h:ag s.heap a u)(g:ag s.heap b v)(f:A.units<cLine):l5 A s a b r:=by
 revert e
 induction h using ag.casesOn with
 |none=>
  induction g using ag.casesOn with
  |none=>exact λe=>sE e (⟨EqAt.same _,RcAt.none_none,RcNeAt.none_none⟩)
  |bool b=>exact λe=>sE e (⟨EqAt.none_bool _,RcAt.none_bool _,RcNeAt.none_bool _⟩)
  |int i t=>exact λe=>sE e (⟨EqAt.none_int _ _,RcAt.none_int _ _,RcNeAt.none_int _ _⟩)
  |str x t O=>exact λe=>sE e (⟨EqAt.none_str _ _,RcAt.none_str _ _,RcNeAt.none_str _ _⟩)
  |bytes x t O=>exact λe=>sE e (PK _ _)
  |av d O=>exact λe=>sE e (⟨EqAt.none_tuple d f,RcAt.none_tuple d f,RcNeAt.none_tuple d f⟩)
  |ref O=>exact nn rfl
 |bool b=>
  cases g with
  |none=>exact λe=>sE e (⟨EqAt.bool_none _,RcAt.bool_none _,RcNeAt.bool_none _⟩)
  |bool c=>exact λe=>sE e (⟨EqAt.bool_bool _ _,RcAt.bool_bool _ _,RcNeAt.bool_bool _ _⟩)
  |_=>exact nn rfl
 |int i t=>
  induction g using ag.casesOn with
  |none=>exact λe=>sE e (⟨EqAt.int_none _ _,RcAt.int_none _ _,RcNeAt.int_none _ _⟩)
  |int j m=>exact λe=>sE e (⟨EqAt.int_int _ _ _ _,RcAt.int_int _ _ _ _,RcNeAt.int_int _ _ _ _⟩)
  |_=>exact nn rfl
 |str x t e1=>
  induction g using ag.casesOn with
  |none=>exact λe=>sE e (⟨EqAt.str_none _ _,RcAt.str_none _ _,RcNeAt.str_none _ _⟩)
  |str y k e2=>exact λe=>sE e (az e1 (az e2 (az Str.Ho ⟨EqAt.str_str _ _ _ _,RcAt.str_str _ _ _ _,RcNeAt.str_str _ _ _ _⟩)))
  |bytes O O O=>exact λe=>sE e (PM _ _ _ _)
  |av d O=>exact λe=>sE e (⟨EqAt.str_tuple _ _ d f,RcAt.str_tuple _ _ d f,RcNeAt.str_tuple _ _ d f⟩)
  |_=>exact nn rfl
 |bytes x t e1=>
  induction g using ag.casesOn with
  |none=>exact λe=>sE e (PJ _ _)
  |str O O O=>exact λe=>sE e (PL _ _ _ _)
  |bytes y k e2=>exact λe=>sE e (az e1 (az e2 (az Hp (PN _ _ _ _))))
  |_=>exact nn rfl
 |ref x=>exact nn rfl
 |av d l=>
  induction g using ag.casesOn with
  |none=>exact λe=>sE e (⟨EqAt.tuple_none d f,RcAt.tuple_none d f,RcNeAt.tuple_none d f⟩)
  |str O O O=>exact λe=>sE e (⟨EqAt.tuple_str _ _ d f,RcAt.tuple_str _ _ d f,RcNeAt.tuple_str _ _ d f⟩)
  |_=>exact nn rfl
theorem zB {c:List Bool}(t:∀{u v:PV} {r:Bool} {a b:Value},f u v=some r->ag s.heap a u->ag s.heap b v->l5 A s a b r)(i:aJ s.heap n l)(k:aJ s.heap p m)(q:List.zipWith f l m=c.map some)
  (j:Nat) (d:j<n.toArray.size) (e:j<p.toArray.size):EqAt A s n.toArray[j] p.toArray[j] (c.getD j true):=
 have g:j<l.length:=i.length▸d;have h:j<m.length:=k.length▸e
 (t (Hz q j g h) (i.at j d g) (k.at j e h)).eq
theorem zE (M:Mt cx Y δ s.heap)(n:Nat):∀{u v:PV} {r:Bool} {a b:Value} {A:Around},eS Y n u v=some r->ag s.heap a u->ag s.heap b v->A.units+n<cLine->l5 A s a b r:=by
 induction n with
 |zero=>exact λe J g Q=>kZ e J g Q
 |succ n C=>
  intro u v r a b A e J g Q;have c:A.units<cLine:=gG (gn _ _) Q;have C:∀{u v:PV} {r:Bool} {a b:Value},eS Y n u v=some r->ag s.heap a u->ag s.heap b v->l5 A.in1 s a b r:=λe J g=>C e J g (by show A.units+1+n<cLine;rw[mN,o8 1];exact Q);revert e
  induction J using ag.casesOn with
  |@av l H h f d=>
   induction g using ag.casesOn with
   |@av l' D qs q p=>
    refine λe=>ai (CQ (f:=eS Y n) e) λw e2 L=>?_;have rr:((List.range (min H.toArray.size D.toArray.size)).all (λj=>w.getD j true)&&H.toArray.size==D.toArray.size)=(w.all id&&h.length==qs.length):=by rw[ei,ei,d.length,p.length,range_all w _ (CP e2).symm]
    have k:=RcAt.tuples (zA f) (zA q) c (zB C d p e2);have I:=RcNeAt.tuples (zA f) (zA q) c (zB C d p e2);rw[rr,←L] at k I;refine⟨?_,k,I⟩;by_cases HB:l=l'
    ·rw[HB] at f⊢
     rw[PR (n+1) e (.av f d) (.av q p)];exact EqAt.same _
    ·exact EqAt.of_refs HB k
   |none=>exact λe=>kZ (u:=.av h) (v:=.none) e (.av f d) .none c
   |bool b=>exact λe=>kZ (u:=.av h) (v:=(.bool b)) e (.av f d) (.bool b) c
   |int i t=>exact λe=>kZ (u:=.av h) (v:=(.int i)) e (.av f d) (.int i t) c
   |str x t m=>exact λe=>kZ (u:=.av h) (v:=(.str _)) e (.av f d) (.str x t m) c
   |bytes x t m=>exact λe=>kZ (u:=.av h) (v:=(.bytes _)) e (.av f d) (.bytes x t m) c
   |ref x=>exact λe=>kZ (u:=.av h) (v:=(.ref x)) e (.av f d) (.ref x) c
  |ref x=>
   refine λe=>zj g e λy e=>?_;by_cases N:x=y
   ·exact nn (aG N) e
   ·rw[aH N] at e
    refine sV e λh m e=>sV e λqs ey e=>ai (M.aa x _ m) λH f d=>ai (M.aa y _ ey) λD q p=>ai (CQ e) λw e2 L=>?_;by_cases G:h.length=qs.length
    ·have U:H.toArray.size=D.toArray.size:=d.length.trans (G.trans p.length.symm)
     have rr:(List.range H.toArray.size).all (λj=>w.getD j true)=(w.all id&&h.length==qs.length):=by rw[ei,d.length,range_all w _ (by rw[CP e2,G,Nat.min_self]),G,ej,Bool.and_true]
     have k:=RcAt.lists f.eG q.eG U c (zB C d p e2);have I:=RcNeAt.lists f.eG q.eG U c (zB C d p e2);rw[rr,←L] at k I;exact⟨EqAt.of_refs N k,k,I⟩
    ·have U:(H.toArray.size !=D.toArray.size)=true:=bne_iff_ne.mpr λz=>G (d.length.symm.trans ((z:H.length=D.length).trans p.length))
     have k:=RcAt.lists_lengths f.eG q.eG U c;exact B (show r=false by rw[L,eA.mpr G,Bool.and_false]) ⟨EqAt.of_refs N k,k,(RcNeAt.lists_lengths f.eG q.eG U c)⟩
  |none=>exact λe=>kZ (u:=.none) (v:=v) e .none g c
  |bool b=>exact λe=>kZ (u:=(.bool b)) (v:=v) e (.bool b) g c
  |int i t=>exact λe=>kZ (u:=(.int i)) (v:=v) e (.int i t) g c
  |str x t m=>exact λe=>kZ (u:=(.str _)) (v:=v) e (.str x t m) g c
  |bytes x t m=>exact λe=>kZ (u:=(.bytes _)) (v:=v) e (.bytes x t m) g c
end
def zF [DecidableEq d] (b:d->PV->Prop):Prop:=∀k a p c,b k p->b a c->PV.beq p c=decide (k=a)
theorem HD:zF mQ:=λk b p c e a=>by refine B (e:p=_) (B (a:c=_) ((az Str.Ho ?_):(k.cps.toList==b.cps.toList)=_));rfl
theorem PT:zF sj:=λk b p c e a=>by refine B (e:p=_) (B (a:c=_) (?_:(k.map UInt8.toNat==b.map UInt8.toNat)=_));rw[←Hp,mM,bG,decide_eq_true_iff]
section
variable [DecidableEq d]{c:d->PV->Prop}(a8:zF c)
include a8
theorem cK.get (r:cK c h m f)(g:c k u):iO h (valueAt m k) (el f u):=by
 induction r with
 |nil=>trivial
 |@cons e v p q r s j l n b=>
  unfold valueAt el at b⊢;refine B (mL) (B (mL) ?_);refine B (a8 e k p u j g) ?_;by_cases a:e=k
  ·simp only[a,decide_true];exact l
  ·simp only[a,decide_false];exact b
theorem cK.has (r:cK c h j b)(e:c k u):j.any (λi=>decide (i.1=k))=fw b u:=by
 induction r with
 |nil=>rfl
 |@cons g v p q r s f m l a=>unfold fw at a⊢;exact B kM (B kM (B a (B (a8 g k p u f e) rfl)))
theorem cK.PU (r:cK c h e f)(b:c k u):(valueAt e k).isSome=fw f u:=by
 refine az (r.has a8 b) ?_;unfold valueAt;refine B Option.isSome_map ?_;clear r a8 b
 induction e with
 |nil=>rfl
 |cons a l g=>refine B (mL) (B kM ?_);by_cases q:a.1=k<;>simp[q,g]
theorem cK.map (r:cK c h t j)(l:c k u)(m:ag h v p):
  cK c h (t.map (λf=>if f.1=k then(f.1,v) else f)) (j.map (λe=>if PV.beq e.1 u then(e.1,p) else e)):=by
 induction r with
 |nil=>exact .nil
 |@cons i y w q r s a n x g=>
  refine B c3 (B c3 ?_);dsimp only;refine B (a8 i k w u a l) ?_;by_cases b:i=k
  ·simp only[b,decide_true,if_true];exact .cons (b▸a) m g
  ·simp only[b,decide_false,if_false];exact .cons a n g
theorem cK.stored (r:cK c h i j)(f:c k u)(g:ag h v p):cK c h (stored i k v) (fx j u p):=by
 unfold PySem.stored fx;have e:=r.has a8 f;by_cases q:i.any (λm=>decide (m.1=k))=true
 ·exact B (aG q) (B (aG (by rw[←e];exact q)) (r.map a8 f g))
 ·refine B (aH q) (B (aH (by rw[←e];exact q)) ?_)
  clear e q a8
  induction r with
  |nil=>exact .cons f g .nil
  |cons a b O l=>exact .cons a b l
theorem cK.without (r:cK c h l g)(i:c k u):cK c h (without l k) (pB g u):=by
 unfold PySem.without pB
 induction r with
 |nil=>exact .nil
 |@cons f p m q r s a j n e=>
  refine B kL (B kL (B (a8 f k m u a i) ?_));by_cases b:f=k
  ·simpa[b] using e
  ·simpa[b] using cK.cons a j e
end
theorem PW (r:cK mQ h e a)(c:dr (.bytes b) a=true):a=[]:=by
 induction r using cK.casesOn with
 |nil=>rfl
 |cons d O O=>rw[show _=_ from d] at c;exact absurd c dz
theorem PX (r:cK sj h e a)(c:dr (.str b) a=true):a=[]:=by
 induction r using cK.casesOn with
 |nil=>rfl
 |cons d O O=>rw[show _=_ from d] at c;exact absurd c dz
theorem zG (r:cK b h a []):a=[]:=List.length_eq_zero_iff.mp r.length
section
theorem HE [DecidableEq p][DecidableEq q]{k:KeyKind n w p}{m:KeyKind n w q}{h:Heap}(x:h.DictAt k a [] b):h.DictAt m a [] b:=by
 obtain⟨o,c,i,d,f,r,j,s⟩:=x;obtain⟨l⟩:=c;cases l with
 |nil=>exact⟨o,#[],i,d,f,λe g=>absurd g (Array.not_mem_empty e),.nil,o7⟩
 |cons=>cases j
end
theorem CR {i:Addr->Addr}{h:Heap}{a:Addr}(r:eT c i h a (.dict f e))(g:dr (.str x) e=true):
  ∃b,h.DictAt (PySem.strKind c.prog c.w) a b f/\cK mQ h b e:=by
 rcases r with r|⟨b,d,r⟩
 ·exact r
 ·have q:=PX r g
  rw[q] at r⊢;rw[zG r] at d;exact⟨[],HE d,.nil⟩
theorem CS {i:Addr->Addr}{h:Heap}{a:Addr}(r:eT c i h a (.dict f e))(g:dr (.bytes x) e=true):
  ∃b,h.DictAt (bytesKind c.prog c.w) a b f/\cK sj h b e:=by
 rcases r with⟨b,d,r⟩|r
 ·have q:=PW r g
  rw[q] at r⊢;rw[zG r] at d;exact aQ [] (HE d) .nil
 ·exact r
theorem HF:Value.isStrOf x (.str x t)=true:=by simp[Value.isStrOf]
theorem PY:isBytes b.toList (.bytes b t)=true:=by simp[isBytes]
theorem HG (e:x.cps.toList=l):mQ x (.str l):=by unfold mQ;exact B e rfl
structure c7 (a:Cx):Prop where
 HH:a.K.In a.base
 PZ:∃o,a.base.get? sysModules=some o
 nolimit:a.base.NoLimit
 blt:∃b,a.base.Ns builtinsNs b/\∀x:Str,x≠"__name__"->b x=bootBuiltins x
 cH:∃c,a.base.Ns mainGlobals c/\∀(x:Str) r,nsIn a.K mainGlobals x=some r->c x=r
section
variable (ok:c7 c){s:Shared}{E:Value->Shared->Prop}(I:bk c g Y i s.heap)
include ok I
theorem P0 (h:Y a≠none):(a==sysModules)=false:=
 eA.mpr λe=>by obtain⟨o,b⟩:=ok.PZ;exact nn (I.de _ (.inl h)).1 (e▸b)
theorem m8 (h:Y a=some o):(a==sysModules)=false:=P0 ok I (c0 h)
inductive P1 (c:Cx)(h:Heap)(a:Addr)(p:Nat)(r:List (PV×PV))(l:Value)(k:PV):Prop
 |mk {K:Type} [DecidableEq K] (f:PySem.KeyKind c.prog c.w K) (b:K->PV->Prop) (a8:zF b) (key:K) (v:f.is key l=true) (w:(keyPart l).isSome=true) (u:b key k) (m:List (K×Value)) (d:h.DictAt f a m p) (x:cK b h m r)
  (t:∀i e n j,e.DictOf f a n->cK b e n j->∃q,eT c i e a (.dict q j))
omit ok in
theorem pM (e:Y a=some (.dict b m))(p:ag s.heap n k)(h:(k.jb&&dr k m)=true):P1 c s.heap a b m n k:=by
 induction p using ag.casesOn with
 |str X t f=>exact ai (CR (I.mt.aa a _ e) (qu.mp h).2) λj d l=>⟨_,_,HD,X,HF (t:=t),rfl,HG f,j,d,l,λO O O O d r=>by exact Ke d.dictAt λb d=>⟨b,.inl (aQ _ d r)⟩⟩
 |bytes X t f=>exact ai (CS (I.mt.aa a _ e) (qu.mp h).2) λj d l=>⟨_,_,PT,X.toList,PY (t:=t),rfl,(by unfold sj;exact B f rfl),j,d,l,λO O O O d r=>by exact Ke d.dictAt λb d=>⟨b,.inr (aQ _ d r)⟩⟩
 |_=>exact absurd (qu.mp h).1 dz
omit ok I in
theorem HI {P:Value->Shared->Prop}{a:List (PV×PV)}(e:n=a.length)(h:P (.bool a.isEmpty) s):P (.bool (n==([]:List (Str×Value)).length&&true)) s:=by
 refine B e ?_;cases a with
 |nil=>exact h
 |cons O O=>exact h
omit ok I in
theorem HJ (h:l.length=0):l=[]:=List.length_eq_zero_iff.mp h
theorem P2 (n:A.units<cLine){x y:Addr}(j:Y x=some (.dict t p))(b:Y y=some (.dict u []))(m:P (.bool p.isEmpty) s):wpAny (model c.prog c.w) A (compareOp .Eq (.ref x) (.ref y)) P E s:=by
 have k:=m8 ok I j;have l:=m8 ok I b;rcases I.mt.aa x _ j with⟨r,d,f⟩|⟨r,d,f⟩
 ·refine ai (CR (x:=[]) (I.mt.aa y _ b) rfl) λq a h=>?_
  rw[zG h] at a;exact keq_eq (r:=true) k l d.dictOf a.dictOf n (λe=>B (HJ e) (.nil)) (HI f.length m)
 ·refine ai (CS (x:=[]) (I.mt.aa y _ b) rfl) λq a h=>?_
  rw[zG h] at a;exact keq_eq (r:=true) k l d.dictOf a.dictOf n (λe=>B (HJ e) (.nil)) (HI f.length m)
theorem P4 (j:A.units+10<cLine)(e:GS Y u v=some r)(k:ag s.heap a u)(l:ag s.heap b v)(f:P (.bool r) s):
  wpAny (model c.prog c.w) A (compareOp .Eq a b) P E s:=by
 have fu:eS Y 4 u v=some r->wpAny (model c.prog c.w) A (compareOp .Eq a b) P E s:=λe=>(zE I.mt 4 e k l (gG (jQ dc _) j)).rc _ _ _ _ f
 induction k using ag.casesOn with
 |ref x=>
  revert fu;refine zj l e λy e fu=>?_;by_cases h:x=y
  ·exact nn (aG h) e
  ·revert e
   refine B (aH h) (G3 (C:=λz=>z=some r->_) (λp t m=>G3 (C:=λz=>z=some r->_) (λq w d e=>gx e λn e=>?_) λe=>nn rfl e) fu);have d:=(uO.mp n)▸d;exact P2 ok I (gG (gn _ _) j) m d (bo e▸f)
 |none=>exact fu e
 |bool O=>exact fu e
 |int O O=>exact fu e
 |str O O O=>exact fu e
 |bytes O O O=>exact fu e
 |av O O=>exact fu e
end
theorem HK (b:Array UInt8)(t:Tok)(i:Int)(u:Tok)(a:0<=i)(c:i<256):Gives (Builtin.«bytes.__contains__» ⟨[.bytes b t,.int i u],[]⟩) (.val (.bool (b.contains i.toNat.toUInt8))):=by
 refine .of_wp λM A E s Q e=>(?_:wpAny M A (Builtin.Bytes.containsIn "bytes.__contains__" (.bytes b t) (.int i u)>>=λr=>_) _ E s);unfold Builtin.Bytes.containsIn;refine B (rfl:asIndex (.int i u)=pure i) (ae (ae (uZ (aU (ae (B qC (aU ?_)))))));have d:(decide (i<0)||decide (i≥256))=false:=by refine B (iM (jv.mpr a)) (B (iM (Int.not_le.mpr c)) ?_);rfl
 dsimp only;exact B d (aU (aU (aQ _ rfl e)))
theorem P5 {b:Array UInt8}(e:b.toList.map UInt8.toNat=l){i:Int}(a:0<=i)(c:i<256):b.contains i.toNat.toUInt8=l.contains i.toNat:=by
 refine az e ?_;obtain⟨b⟩:=b;rw[mM];simp only[List.contains_toArray,List.contains_iff_mem,List.mem_map];constructor
 ·exact λh=>aQ _ h (by simp[Nat.toUInt8,((Int.toNat_lt a).mpr c)]:(i.toNat.toUInt8).toNat=i.toNat)
 ·rintro ⟨x,d,f⟩
  refine az f ?_;have:x.toNat.toUInt8=x:=by simp
  exact B this d
theorem jB (e:x.cps.toList=l):bp l=x:=by subst e;cases x;rfl
noncomputable def qS (v:Value):Bs:=match v with|.str x _=>x.cps.toList|.bytes b _=>b.toList.map UInt8.toNat|_=>[]
inductive CU (A:Around)(s:Shared)(b:List Value)(c:List Bs)(x:Value)(l:Bs):Prop
 |mk (e:∀y∈b,EqAt A s y x (qS y==l)) (a:b.any (qS ·==l)=c.any (·==l))
theorem HL (r:aJ s.heap c (b.map g))(e:∀v a,ag s.heap v (g a)->qS v=a)(i:∀v a,ag s.heap v (g a)->EqAt A s v x (a==l)):CU A s c b x l:=
 r.qQ (C:=λc b=>CU A s c b x l) ⟨(by intros;contradiction),rfl⟩ λ{v a c b} d O j=>by obtain⟨f,h⟩:=j;exact⟨λy m=>(d4.mp m).elim (λq=>q▸(e v a d).symm▸i v a d) (f y),B kM (B kM (B (e v a d) (B h rfl)))⟩
section
variable (ok:c7 c){s:Shared}{E:Value->Shared->Prop}(I:bk c g Y n s.heap)
include ok I
def CV (c:Cx) (A:Around) (E:Value->Shared->Prop) (s:Shared) (P:Value->Shared->Prop) (a b:Value) (r:Bool):Prop:=
 ((∀d,P (.bool r) {s with toks:=d})->wpAny (model c.prog c.w) A (compareOp .In a b) P E s)/\((∀d,P (.bool (!r)) {s with toks:=d})->wpAny (model c.prog c.w) A (compareOp .NotIn a b) P E s)
theorem P6 (U:A.units+10<cLine)(e:oj Y u y=some r)(q:ag s.heap a u):CV c A E s P a (.ref y) r:=by
 unfold oj at e;cases i:Y y with
 |none=>rw[i] at e;exact nn rfl e
 |some o=>
  rw[i] at e;have z:=m8 ok I i;cases o with
  |dict Q es=>refine gx e λk e=>?_;obtain⟨kd,kr,a8,key,C,O,k,kvs,d,M,O⟩:=pM I i q k;exact az (bo e) (az (M.PU a8 k) ⟨λh=>wpAny_in_of C z d.dictOf.mapOf (h _),λh=>wpAny_notIn_of C z d.dictOf.mapOf (h _)⟩)
  |list G=>
   refine ai (I.mt.aa y _ i) λN J x=>?_;have w:=eL.eG J;have H:A.in1.units+0<cLine:=gG (jQ (by decide:1<=10) _) U;have cj:∀{f:List Bs} {l:Bs},CU A.in1 s N f a l->f.any (·==l)=r->CV c A E s P a (.ref y) r:=λ{f l} m e=>by obtain⟨D,L⟩:=m;exact az e (az L (az List.any_toArray ⟨λh=>in_listAt (qS ·==l) w (λy p=>D y (by simpa using p)) (h _),λh=>notIn_listAt (qS ·==l) w (λy p=>D y (by simpa using p)) (h _)⟩))
   cases u with
   |str l=>exact ai (fW.mp (show(kR G).map (λf=>f.any (·==l))=some r from e)) λf j e=>cj (HL (CM j▸x) (λv a r=>v9 (C:=λv=>qS v=a) r λO O e=>e) λv b t=>(zE I.mt 0 (u:=.str b) (v:=.str l) rfl t q H).eq) e
   |bytes l=>exact ai (fW.mp (show(mW G).map (λf=>f.any (·==l))=some r from e)) λf j e=>cj (HL (CN j▸x) (λv a r=>zo (C:=λv=>qS v=a) r λO O e=>e) λv b t=>(zE I.mt 0 (u:=.bytes b) (v:=.bytes l) rfl t q H).eq) e
   |_=>exact nn rfl e
  |_=>exact nn rfl e
theorem HM (m:A.units+10<cLine){r:Bool}(e:oq Y u v=some r)(i:ag s.heap a u)(p:ag s.heap b v):CV c A E s P a b r:=by
 induction p using ag.casesOn with
 |str j q h=>refine vZ i (e:u.d6 (λa=>some (sN a _)) none=some r) λX t l k e=>az (bo e) ?_;unfold sN;exact B (jB k) (B (jB h) (az (ox h) ⟨λd=>PyProof.Rows.in_str (d _),λd=>PyProof.Rows.notIn_str (d _)⟩))
 |@bytes j q l h=>
  exact hY i (e:u.cu (λa=>if 0<=a/\a<256 then some (l.contains a.toNat) else none) none=some r) λx t e=>gx e λf e=>az (bo e) (az (P5 h f.1 f.2) ⟨λd=>in_gives (cY s _ _) FB.slot_bytes_contains FB.entry_bytes_contains (FB.args_bytes_contains_2 _ _) (HK _ _ _ _ f.1 f.2) (d _),
   λd=>notIn_gives (cY s _ _) FB.slot_bytes_contains FB.entry_bytes_contains (FB.args_bytes_contains_2 _ _) (HK _ _ _ _ f.1 f.2) (d _)⟩)
 |ref y=>exact P6 ok I m e i
 |_=>exact nn rfl e
omit ok I in
theorem HN (b:ag h a u):(a==Value.none)=u.isNone:=by induction b using ag.casesOn<;>rfl
omit ok I in
theorem pQ {P:Value->Shared->Prop}(h:some a=some b)(k:P (.bool b) s):P (.bool a) s:=(Option.some.inj h).symm▸k
theorem zH (k:A.units+10<cLine)(o:lO){u v:PV}(e:dG Y o u v=some r)(h:ag s.heap a u)(f:ag s.heap b v)(d:∀z,P (.bool r) {s with toks:=z}):
  wpAny (model c.prog c.w) A (compareOp o.op a b) P E s:=by
 cases o with
 |eq=>exact P4 ok I k e h f (d s.toks)
 |ne=>exact ai (fW.mp e) λy q e=>(zE I.mt 4 q h f (gG (jQ dc _) k)).ne _ _ _ _ (e▸d s.toks)
 |lt=>exact hY h e λi t e=>hY f e λj p e=>PyProof.Rows.lt_int (pQ e (d s.toks))
 |le=>
  induction h using ag.casesOn with
  |int i t=>exact hY f (e:v.cu (λj=>some (decide (i<=j))) none=some r) λj p e=>PyProof.Rows.le_int (pQ e (d s.toks))
  |@str X t l w=>exact vZ f (e:v.d6 (λm=>some (decide (l<=m))) none=some r) λH p m x e=>PySem.P.le_str (B w (B x (az decide_not (pQ e (d s.toks)))))
  |_=>exact nn rfl e
 |gt=>exact hY h e λi t e=>hY f e λj p e=>PyProof.Rows.gt_int (pQ e (d s.toks))
 |ge=>exact hY h e λi t e=>hY f e λj p e=>PyProof.Rows.ge_int (pQ e (d s.toks))
 |iu=>exact Hl f e λe=>is_none (by exact B (HN h) (pQ e (d s.toks)))
 |gv=>exact Hl f e λe=>isNot_none (by exact B (HN h) (pQ e (d s.toks)))
 |fI=>exact(HM ok I k e h f).1 d
 |su=>exact ai (fW.mp e) λy q e=>(HM ok I k q h f).2 (e▸d)
end
theorem zI (h: -1000000000<=i): -(2^63)<=i:=Int.le_trans dc h
theorem zJ {i:Int}(h:i<=1000000000):i<2^63:=Int.lt_of_le_of_lt h dc
theorem HO (a: -1000000000<=i)(b:i<=1000000000):Builtin.Bytes.fitsIndex i=true:=by
 unfold Builtin.Bytes.fitsIndex
 first
 |exact qu.mpr ⟨f3 (zI a),f3 (zJ b)⟩
 |(simp only[Bool.and_eq_true,decide_eq_true_eq];lia)
theorem P7 (h:fL n i=some k): -1000000000<=i/\i<=1000000000/\seqIndex? i n=some k:=by
 unfold fL at h;by_cases q: -1000000000<=i/\i<=1000000000
 ·exact⟨q.1,q.2,(aG q).symm.trans h⟩
 ·exact nn (aH q) h
theorem P8 (h:seqIndex? i n=some k):k<n/\(0<=i->i=k)/\(i<0->-(n:Int)<=i/\(i+n).toNat=k):=by
 unfold seqIndex? at h;have key:∀j:Int,(if(decide (0<=j)&&decide (j<n))=true then some j.toNat else none)=some k->j=k/\k<n:=λj h=>by
  by_cases z:(decide (0<=j)&&decide (j<n))=true
  ·have q:j.toNat=k:=bo ((aG z).symm.trans h)
   have z:=V z;have b:=cf z.1;exact⟨az q (B (yq b) rfl),q▸(Int.toNat_lt b).mpr (cf z.2)⟩
  ·exact nn (aH z) h
 refine Ka (key _ h) λa c=>?_;by_cases q:i<0
 ·rw[aG q] at a
  exact aS c (λz=>absurd q (jv.mpr z)) (λO=>⟨by lia,by refine B a ?_;rfl⟩)
 ·rw[aH q] at a
  exact aS c (λO=>a) (λz=>absurd z q)
inductive P9 (h:Heap)(o:Option Value)(p:PV):Prop
 |mk (v:Value) (e:o=some v) (r:ag h v p)
theorem Qa (r:iO h o (some p)):P9 h o p:=by
 cases o with
 |none=>exact r.elim
 |some v=>exact⟨v,rfl,r⟩
theorem zK (e:sO p=some o)(r:ag h a p):IsPart a o:=by
 induction r using ag.casesOn with
 |none=>refine az (bo e) ?_;constructor
 |int i t=>refine az (bo e) ?_;constructor
 |_=>exact nn rfl e
section
variable (ok:c7 g){s:Shared}{E:Value->Shared->Prop}(I:bk g p Y w s.heap)
include ok I
omit ok I in
theorem zL {P:Prop}(h:(fL n i).bind f=some r)(k:∀j,-1000000000<=i->i<=1000000000->seqIndex? i n=some j->f j=some r->P):P:=by
 cases q:fL n i with
 |none=>rw[q] at h;exact nn rfl h
 |some j=>rw[q] at h;exact dD (P7 q) λa b c=>k j a b c h
theorem Qb {x:Addr}(e:qI Y x k=some r)(y:ag s.heap b k)(l:∀v M,ag s.heap v r->P v {s with toks:=M}):ItemOn (model g.prog g.w) A E (.ref x) b P s:=by
 unfold qI at e;cases c:Y x with
 |none=>rw[c] at e;exact nn rfl e
 |some o=>
  rw[c] at e;cases o with
  |list H=>
   refine hY y (e:k.cu (λi=>(fL H.length i).bind λj=>H[j]?) none=some r) λi t e=>zL e λj G U J C=>?_;refine dD (P8 J) λk1 k2 k3=>?_;refine ai (I.mt.aa x _ c) λvs a u=>?_;have a:=eL.eG a;obtain⟨v,f,h⟩:=u.get C;refine iZ ("list") _ F.slot_list_getitem.lookup a.typeIs ?_;by_cases m:0<=i
   ·exact wpAny_getItem_list a m (zJ U) (by rw[k2 m,Int.toNat_natCast];exact(jP ..).trans f) (l _ s.toks h)
   ·have q:=Int.not_le.mp m
    rw[←u.length] at k3;exact wpAny_getItem_list_neg a q (k3 q).1 (zI G) (by exact B ((k3 q).2) ((jP ..).trans f)) (l _ s.toks h)
  |dict N Q=>refine gx e λn e=>?_;obtain⟨kd,kr,a8,key,D,O,n,kvs,d,L,O⟩:=pM I c y n;have z:=L.get a8 n;rw[e] at z;obtain⟨v,f,h⟩:=Qa z;exact iZ ("dict") _ F.slot_dict_getitem.lookup d.dictOf.typeIs (wpAny_getItem_of D d.dictOf.mapOf f (l _ _ h))
  |_=>exact nn rfl e
theorem HP {u k r:PV}(e:ix Y u k=some r)(Q:ag s.heap a u)(z:ag s.heap b k)(y:∀v tk,ag s.heap v r->P v {s with toks:=tk}):
  ItemOn (model g.prog g.w) A E a b P s:=by
 induction Q using ag.casesOn with
 |@av x vs U C G=>refine hY z (e:k.cu (λi=>(fL U.length i).bind λk=>U[k]?) none=some r) λi t e=>zL e λj m n h f=>?_;obtain⟨v,N,rv⟩:=G.get f;rw[←G.length] at h;exact iZ ("tuple") _ yx.lookup (aQ _ C.choose_spec.1 C.choose_spec.2.1) (getItem_tuple C (zI m) (zJ n) (j:=j) h ((jP ..).trans N) (y _ s.toks rv))
 |@str X t l q=>
  refine hY z (e:k.cu (λi=>(fL l.length i).bind λk=>(l[k]?).map λc=>.str [c]) none=some r) λi J e=>zL e λj m n h f=>ai (fW.mp f) λc f e=>iZ ("str") _ F.slot_str_getitem.lookup (jS _ _ _) (PyProof.Rows.getItem_str (c:=c) ((by refine B (iM (jv.mpr (zI m))) (B (iM (Int.not_le.mpr (zJ n))) ?_);rfl)) (B (ox q) (B h ?_)) (y _ _ (e▸.str _ _ rfl)))
  rw[←q] at f;exact rZ.symm.trans f
 |@bytes X t l q=>
  refine hY z (e:k.cu (λi=>(fL l.length i).bind λk=>(l[k]?).map λ(c:Nat)=>PV.int (Int.ofNat c)) none=some r) λi J e=>zL e λj m n h f=>ai (fW.mp f) λc H D=>?_;rw[←q] at H h;rw[eZ] at H;refine ai (fW.mp H) λd L M=>?_;rw[←M] at D;refine iZ ("bytes") _ yr.lookup (cY _ _ _) (getItem_gives (cY s _ t) dc yr FB.entry_bytes_getitem (FB.args_bytes_getitem_2 _ _)
   (gives_bytes_getitem _ i t J d ?_ ?_) (y _ _ (D▸.int _ _)))
  ·exact HO m n
  ·rw[aW,lF] at h
   refine B h ?_;simpa using L
 |ref x=>exact Qb ok I e z y
 |_=>exact nn rfl e
end
theorem Qc [Decidable c]{a b:Made}(d:c->a.post Q s)(e:¬c->b.post Q s):(if c then a else b).post Q s:=by
 by_cases q:c
 ·exact B (aG q) (d q)
 ·exact B (aH q) (e q)
theorem Qd (o:Option Int)(d:Nat)(a:d<=n):o.elim d (clipAt n)<=n:=by
 cases o with
 |none=>exact a
 |some i=>exact qB.mpr (Int.max_le.mpr ⟨fH n,Int.min_le_right ..⟩)
theorem Qe {t:Tok}(e:x.cps.toList=l)(lo a:Option (Int×Tok))(f:l.length<=aI)
  (h:∀y g i,y.cps.toList=bT l (lo.map (·.1)) (a.map (·.1))->Q (.str y g) {s with toks:=i}):(sliceMade x t lo a none).post Q s:=by
 have c:=ox e;have e2:slicePicked x lo a none=(List.range ((a.map (·.1)).elim l.length (clipAt l.length)-(lo.map (·.1)).elim 0 (clipAt l.length))).map ((lo.map (·.1)).elim 0 (clipAt l.length)+·):=by have e1:slicePicked x lo a none=sliceRange (sliceBounds (lo.map (·.1)) (a.map (·.1)) none x.length).1 (sliceBounds (lo.map (·.1)) (a.map (·.1)) none x.length).2.1 1:=rfl;rw[e1,sliceBounds_plain,c];exact sliceRange_one ..
 have key:(slicePicked x lo a none).filterMap (x.cps[·]?)=bT l (lo.map (·.1)) (a.map (·.1)):=by rw[e2,pick_run,e];rfl
 refine Qc (λd=>h x t s.toks ?_) λO=>⟨?_,h _ _ _ (B key rfl)⟩
 ·have b:=eq_of_beq (qu.mp d).2
  rw[e2,aW,kJ,c] at b;refine B e ?_;unfold bT;refine B b ?_;cases q:(lo.map (·.1)).elim 0 (clipAt l.length) with
  |zero=>exact B List.drop_zero (B List.take_length rfl)
  |succ m=>rw[q] at b;refine B (uH.mp (Nat.eq_zero_of_not_pos λp=>kO (gG (Nat.sub_le_sub_right (Qd (a.map (·.1)) l.length (dE _)) _) (Nat.sub_lt p (Nat.succ_pos m))) b)) ?_;rfl
 ·exact B key (aw (aw ((aw (List.length_take_le' ..) (B yB (Nat.sub_le ..)))) f) dc)
theorem HQ (e:sO p=some o)(r:ag h a p):∃q:Option (Int×Tok),a=partValue q/\q.map (·.1)=o:=by
 induction r using ag.casesOn with
 |none=>exact aQ none rfl (bo e)
 |int i t=>exact aQ (some (i,t)) rfl (bo e)
 |_=>exact nn rfl e
theorem Qf (lo a:Option Int):slicePick b.toArray lo a none=(bT b lo a).toArray:=by unfold slicePick;rw[sliceBounds_plain];rw[sliceRange_one,pick_run];simp[bT]
theorem Qg (r:aJ h c b)(lo a:Option Int):aJ h (bT c lo a) (bT b lo a):=by unfold bT;exact B r.length ((r.drop _).take _)
theorem Qh (e:b.toList.map UInt8.toNat=l)(lo a:Option Int):(KBy.picked b lo a).toList.map UInt8.toNat=bT l lo a:=by rw[KBc.picked_eq];subst e;simp[bT,List.map_take,List.map_drop]
section
variable {E:Value->Shared->Prop}
theorem Qi {n:Nat}(g:s.heap.IsSliceOf i .none (.int 0 u) (.int (-1) v))(c:1<=n)(h:Q ((n:Int)-1,-1,n-1) s):
  wpAny (model k w) A (Builtin.Slice.sliceApplied (.ref i) (pure (n:Int))) Q E s:=by
 refine gk (id g) λos b j a=>ae (ae (lL b a (x:=.none) rfl (ae (lL b a (x:=.int 0 u) rfl (ae (lL b a (x:=.int (-1) v) rfl (aU (ae (slicePart_int ((B (aH dc) (ae (slicePart_none (ae (slicePart_int (ae (aU (?_:wpAny _ _ (match Builtin.Slice.sliceAdjust none (some 0) (-1) (n:Int) with|(lo,e)=>pure (lo,(-1:Int),Builtin.Slice.slicePlaces lo e (-1))) _ _ s)))))))):wpAny _ _ (if((-1:Int)==0)=true then _ else _) _ _ s))))))))));have d:Builtin.Slice.sliceAdjust none (some 0) (-1) (n:Int)=((n:Int)-1,0):=br (Prod.mk _) (Int.min_eq_left (Int.sub_nonneg_of_le (i7.mpr c)));refine B d (?_:wpAny _ _ (pure ((n:Int)-1,(-1:Int),Builtin.Slice.slicePlaces ((n:Int)-1) 0 (-1))) _ _ s);have f:Builtin.Slice.slicePlaces ((n:Int)-1) 0 (-1)=n-1:=by
  cases n with
  |zero=>cases c
  |succ m=>
   refine B (show((m+1:Nat):Int)-1=(m:Int) from(show(m:Int)+1-1=m from Int.add_sub_cancel ..)) ?_;cases m with
   |zero=>rfl
   |succ m=>refine(?_:(if((m+1:Nat):Int)>0 then(((m+1:Nat):Int)-0-1)/1+1 else 0).toNat=m+1);rw[aG (show((m+1:Nat):Int)>0 from f5.mpr (Nat.succ_pos m)),Int.ediv_one,Int.sub_zero,Int.sub_add_cancel];rfl
 exact B f (aU h)
theorem Qj {l:List d}(h:∀k∈l,f k=g k):l.filterMap f=l.filterMap g:=by
 induction l with
 |nil=>rfl
 |cons a l c=>exact B mK (B mK (B (h a (.head _)) (B (c λk b=>h k (.tail _ b)) rfl)))
theorem Qk (a:k<n):(((n+1:Nat):Int)-1+(k:Int)* -1).toNat=n-1-k+1:=by rw[show((n+1:Nat):Int)-1=(n:Int) from(Int.add_sub_cancel .. :(n:Int)+1-1=n),Int.mul_neg,Int.mul_one,←Int.sub_eq_add_neg,Int.toNat_sub,Nat.sub_right_comm,Nat.sub_add_cancel (Nat.sub_pos_of_lt a)]
theorem Ql (a:Array Value):((List.range (a.size-1)).filterMap λ(k:Nat)=>a[((a.size:Int)-1+(k:Int)* -1).toNat]?).toArray=(a.toList.drop 1).reverse.toArray:=by
 obtain⟨l⟩:=a;cases l with
 |nil=>rfl
 |cons y r=>
  have e:((List.range r.length).map (0+·)).filterMap (r.reverse.toArray[·]?)=r.reverse:=by rw[pick_run,List.drop_zero];exact BC (B o4 (dE _))
  refine br List.toArray (Eq.trans ?_ e);refine B List.filterMap_map (Qj λk b=>?_);have b:k<r.length:=ik.mp b;refine(?_:(y::r).toArray[(((r.length+1:Nat):Int)-1+(k:Int)* -1).toNat]? =r.reverse.toArray[0+k]?);rw[Qk b,lI,jP,jP,List.getElem?_cons_succ,List.getElem?_reverse b]
theorem Qm {items:Array Value}(b:IsTup s.heap t items)(c:s.heap.IsSliceOf i .none (.int 0 u) (.int (-1) v))(d:1<=items.size)
  (h:Q (.ref s.heap.objs.size) {s with heap:=s.heap.push {cls:=.type "tuple",data:=.seq (items.toList.drop 1).reverse.toArray}})
  (g:items.size<=sizeLine):wpAny (model k w) A (getItem (.ref t) (.ref i)) Q E s:=by
 have a:sizeOk (.seq (items.toList.drop 1).reverse.toArray):=by exact((B ei (B o4 (B yB (B lF (aw (Nat.sub_le ..) g))))):(items.toList.drop 1).reverse.toArray.size<=sizeLine)
 refine gk (id c) λos f e j=>?_;unfold getItem
 try with_reducible refine dm ?_
 first|refine ae (aU ?_)|skip
 refine ae (wpAny_sequenceKey b.typeIs dc (ae (wpAny_callSpecial?_slot (name:=Str.ofString "__getitem__") b.typeIs yx
  (wpAny_call_entry yx b.typeIs F.entry_tuple_getitem ?_ (F.args_tuple_getitem_2 _ _)))))
 refine((ae (tupleItemsOf_ b ?_)):wpAny _ _ (Builtin.Tuple.tupleItemsOf (.ref t)>>=_) _ _ s);refine ae (wpAny_typeOf (aQ os f e) ?_);refine B (aG dc) (ae (Qi c d ?_));refine(?_:wpAny _ _ (if((items.size:Int)-1==0&&(-1:Int)==1&&(items.size-1)==items.size)=true then _ else _) _ _ s);refine B (aH (by simp:¬(((items.size:Int)-1==0&&(-1:Int)==1&&(items.size-1)==items.size)=true))) (B (Ql items) ?_)
 first
  |exact ae (m:=Builtin.Tuple.tupleExact _) (qw (aU (aQ _ rfl (aU h))) a)
  |exact ae (m:=Builtin.Tuple.tupleExact _) (qw (ae (aU (aU ⟨_,rfl,aU h⟩))) a)
  |exact ae (ae (m:=Builtin.Tuple.tupleExact _) (qw (aU (aU ⟨_,rfl,aU h⟩)) a))
  |exact ae (ae (m:=Builtin.Tuple.tupleExact _) (qw (aU ⟨_,rfl,aU h⟩) a))
end
theorem Qn (s:Shared)(h a:Heap)(t b:Nat):aa (aa s h t) a b=aa s a b:=rfl
section
variable (ok:c7 d){s:Shared}{E:Value->Shared->Prop}(I:bk d c Y j s.heap)
include I
theorem ar.av (f:aJ s.heap vs ps)(h:Q (.av ps) Y)(a:Nat):
  bN d c Y j s Q (.ref s.heap.objs.size) (aa s (s.heap.push {cls:=.type "tuple",data:=.seq vs.toArray}) a):=
 ar.ext I (λb g e=>cR _ e)
  (.av (uE _ (eK _ rfl) rfl 0 rfl) (aJ.bU (lY λb g e=>cR _ e) f)) h a
omit I in
theorem CW {lo g:PV}{P:Prop}(h:bQ (kT l lo g) f)(k:∀a b,sO lo=some a->sO g=some b->f (bT l a b)->P):P:=
 ff h λr e h=>by exact ai (BA.mp e) λa e1 e2=>ai (fW.mp e2) λb i m=>k a b e1 i (m▸h)
theorem Qo {v lo f:PV}{a va vb:Value}(g:s.heap.IsSliceOf L va vb .none)(J:ag s.heap a v)(i:ag s.heap va lo)(m:ag s.heap vb f)(h:Hb v lo f Q Y):
  ItemOn (model d.prog d.w) A E a (.ref L) (bN d c Y j s Q) s:=by
 induction J using ag.casesOn with
 |@str X t l b=>refine CW (h:bQ (kT l lo f) _) λq r e1 e h=>?_;refine ai (HQ e1 i) λu C D=>?_;refine ai (HQ e m) λw G U=>?_;rw[C,G] at g;exact iZ ("str") _ F.slot_str_getitem.lookup (jS _ _ _) (wpAny_getItem_str_slice (l:=u) (u:=w) (st:=none) g rfl (Qe b u w h.1 λy M N H=>ar.now I (.str _ _ (H.trans (B D (B U rfl)))) h.2 N))
 |@bytes X t l b=>
  exact CW (h:bQ (kT l lo f) _) λq r e1 e h=>iZ ("bytes") _ yr.lookup (cY _ _ _) (getItem_meets (cY _ _ _) dc yr FB.entry_bytes_getitem (FB.args_bytes_getitem_2 _ _)
   (KBc.meets_slice2 X t _ (zK e1 i) (zK e m)) (aS g (aw (KBc.size_picked_le _ _ _) (B (qR b) (aw h.1 dc))) (λM k=>ar.now I (.bytes _ _ (Qh b _ _)) h.2 k)))
 |ref x=>refine Pc (h:vO _ False (Y x)) λxs b h=>CW h λq r e1 e h=>?_;obtain⟨vs,n,p⟩:=I.mt.row b;exact iZ ("list") _ F.slot_list_getitem.lookup n.typeIs (wpAny_getItem_list_slice n g (zK e1 i) (zK e m) .none (λz=>nn rfl z) (by rw[Qf];exact ar.list I (Qg p _ _) h.2 _) (B ei (B p.length (aw h.1 dc))))
 |_=>exact False.elim h
theorem Qp {v lo k:PV}{a va vb:Value}(e:i= -1)(b:s.heap.IsSliceOf u va vb (.int i t))(r:ag s.heap a v)(q:ag s.heap va lo)(n:ag s.heap vb k)(h:Hc v lo k Q Y):
  ItemOn (model d.prog d.w) A E a (.ref u) (bN d c Y j s Q) s:=by
 rw[e] at b;revert b;refine tc q h λh=>?_
 induction r using ag.casesOn with
 |ref x=>refine tc n h λh=>qK h λH p h b=>ai (I.mt.aa x _ p) λw g f=>?_;have g:=eL.eG g;exact iZ ("list") _ F.slot_list_getitem.lookup g.typeIs (wpAny_getItem_list_slice g b .none .none (.int _ _) (λz=>by cases z) (by rw[krv_pick];exact ar.list I f.reverse h.2 _) (B ei (B f.length (aw h.1 dc))))
 |@av x w l m f=>refine m7 n (h:k.cu (λi=>i=0/\(1<=l.length/\l.length<=aI)/\Q (.av (l.drop 1).reverse) Y) False) λi y h b=>?_;rw[h.1] at b;exact iZ ("tuple") _ yx.lookup m.typeIs (Qm m b (B ei (B f.length h.2.1.1)) (ar.av I (f.drop 1).reverse h.2.2 _) (B ei (B f.length (aw h.2.1.2 dc))))
 |_=>exact False.elim h
theorem Qq {v lo b st:PV}{a va vb vc:Value}(e:s.heap.IsSliceOf m va vb vc)(k:ag s.heap a v)(f:ag s.heap va lo)(g:ag s.heap vb b)(l:ag s.heap vc st)(h:sX v lo b st Q Y):
  ItemOn (model d.prog d.w) A E a (.ref m) (bN d c Y j s Q) s:=by
 induction l using ag.casesOn with
 |none=>exact Qo I e k f g h
 |int i t=>exact Qp I h.1 e k f g h.2
 |_=>exact False.elim h
end
noncomputable def Bi.run (b:Bi)(a:List Value):Sem Value:=match b with
 |.len=>call (.builtin "len") a|.mS=>call (.builtin "ord") a|.pq=>call (.builtin "chr") a|.bytes=>call (.type "bytes") a|.str=>call (.type "str") a
 |.sorted=>call (.builtin "sorted") a|.all=>call (.builtin "all") a|.any=>call (.builtin "any") a|.int=>call (.type "int") a|.list=>call (.type "list") a|.tuple=>call (.type "tuple") a
 |.isStr=>call (.builtin "isinstance") (a++[.type "str"])
theorem HR {h:Heap}{b:List Value}{ns:List Bool}(r:aJ h b (ns.map .bool)):b=ns.map .bool:=
 r.qQ (C:=λb ns=>b=ns.map .bool) rfl λ{v a b e} c O d=>PA (C:=λv=>v::b=(a::e).map .bool) c (br (Value.bool a::·) d)
theorem CX {n:Nat}(h:n<=16000000):(n:Int)<2^63:=Int.lt_of_le_of_lt (Int.ofNat_le.mpr h) dc
theorem HS {h:Heap}{a:Addr}(l:h.IsList a b):a<h.objs.size:=ai l λO e O=>Heap.lt_size e
theorem HT {a:List Bool}{i:Nat}(h:(a.map Value.bool)[i]? =some v):∃b,a[i]? =some b/\v=.bool b:=by rw[eZ] at h;exact ai (fW.mp h) λb e q=>aQ b e q.symm
theorem HU {h a:Heap}{o:Obj}(c:∀b x,b∉[h.objs.size]->(h.push o).get? b=some x->a.get? b=some x)(b:Addr)(x:Obj)(e:h.get? b=some x):a.get? b=some x:=
 c b x (by simpa using Nat.ne_of_lt (Heap.lt_size e)) (Heap.get?_push_of_some _ e)
theorem Qr (r:ag h v (.ref a)):v=.ref a:=PB r rfl
namespace BK
theorem Qs:typeLookup (.type "bytes") "__bytes__"=pure (some (.builtin "bytes.__bytes__")):=by rw[typeLookup_type,builtinLookup_eq_fast];kernel_rfl
theorem Qt:typeLookup (.type "int") "__bytes__"=pure none:=by rw[typeLookup_type,builtinLookup_eq_fast];kernel_rfl
theorem Qu (b:Array UInt8)(t:Tok):Gives (Builtin.«bytes.__new__» ⟨[.type "bytes",.bytes b t],[]⟩) (.val (.bytes b t)):=by refine .of_wp λM A E s Q a=>?_;unfold Builtin.«bytes.__new__»;exact ae (cG (a:=true) rfl (iq rfl (ae (cG F.bm_sub (iq rfl (ae (cG (F.bm_bind _) (ae (cG (a:=()) rfl (ae (cG (a:=()) rfl (iq rfl (ae (sf (cY s b t) Qs (ae (mO (ae (wpAny_typeOf (cY s b t) (bm_if_true rfl (aU ⟨_,rfl,a⟩))))))))))))))))))))
theorem Qw (n:Int)(t:Tok)(b:0<=n)(a:n<1000):Gives (Builtin.«bytes.__new__» ⟨[.type "bytes",.int n t],[]⟩) (.bytes (Array.replicate n.toNat 0)):=by refine .of_wp λM A E s Q c=>?_;unfold Builtin.«bytes.__new__»;refine ae (cG (a:=true) rfl (iq rfl (ae (cG F.bm_sub (iq rfl (ae (cG (F.bm_bind _) (ae (cG (a:=()) rfl (ae (cG (a:=()) rfl (iq rfl (ae (sf (typeIs_int s n t) Qt (ae (cG (a:=false) rfl (iq rfl (ae (sf (typeIs_int s n t) F.slot_int_index.lookup (iq rfl ?_))))))))))))))))))));rw[(rfl:asIndex (.int n t)=pure n)];refine ae (uZ (aU (iq (by rw[HO (lJ dc b) (lJ (lK a) dc)];rfl) ?_)));dsimp only;rw[aH (jv.mpr b),aH (jv.mpr (lJ (lK a) dc)),aH (uR _▸iM (Nat.not_lt.mpr (aw (qB.mpr (lK a)) dc)):¬Builtin.Bytes.tooLong n.toNat=true)];exact ae (mO (ae (wpAny_mkBytes (aU ⟨_,rfl,c.2⟩) c.1)))
end BK
section
variable (ok:c7 j){s:Shared}{E:Value->Shared->Prop}(I:bk j f Y m s.heap)
include I
theorem ar.CY (k:fp s.heap a)(r:ag a v p)(h:Q p Y)(b:Nat):
  bN j f Y m s Q v (aa s a b):=ar.ext I k r h b
theorem Qx {u r:PV}(e:GU Y u=some r)(n:ag s.heap v u)(c:Q r Y):wpAny (model j.prog j.w) A (call (.builtin "len") [v]) (bN j f Y m s Q) E s:=by
 induction n using ag.casesOn with
 |@str X t l a=>exact gx (e:(if fits l then some (PV.int l.length) else none)=some r) λb e=>PyProof.Rows.len_str (Int.not_le.mpr (CX (B (ox a) (zr b)))) (ar.now I (.int _ _) (B (ox a) (sQ e c)) _)
 |@bytes X t l a=>exact gx (e:(if fits l then some (PV.int l.length) else none)=some r) λb e=>W.len_bytes (B (qR a) (aw (zr b) dc)) (ar.now I (.int _ _) (B (qR a) (sQ e c)) _)
 |@av x p l k g=>exact gx (e:(if l.length<=aI then some (PV.int l.length) else none)=some r) λb e=>PyProof.Rows.len_tuple k (CX (aw (ju g.length) b)) (ar.now I (.int _ _) (B ei (B g.length (sQ e c))) _)
 |ref x=>exact sV (e:dq (λd=>if d.length<=aI then some (PV.int d.length) else none) none (Y x)=some r) λd a e=>gx e λb e=>ai (I.mt.aa x _ a) λq i h=>call_len_list (eL.eG i) (CX (aw (ju h.length) b)) (ar.now I (.int _ _) (B ei (B h.length (sQ e c))) _)
 |_=>exact nn rfl e
theorem Qy (C:A.handled=none)(e:GW Y u=some r)(L:ag s.heap v u)(h:Q r Y):wpAny (model j.prog j.w) A (call (.type "bytes") [v]) (bN j f Y m s Q) E s:=by
 induction L using ag.casesOn with
 |bytes X t g=>exact callType_new F.bm_called dc (F.bm_typeCall _) (F.bm_newCall _) (λw=>F.args_object_init_2 w _) F.bm_entry (BK.Qu X t).meets ⟨cY _ _ _,ar.here I (.bytes _ _ g) (sQ e h)⟩
 |int i t=>
  refine gx (e:(if 0<=i/\i<1000 then some (PV.bytes (List.replicate i.toNat 0)) else none)=some r) λp e=>callType_new F.bm_called dc (F.bm_typeCall _) (F.bm_newCall _) (λw=>F.args_object_init_2 w _) F.bm_entry (BK.Qw _ t p.1 p.2).meets (aS ?_ (cY _ _ _) (ar.now I (.bytes _ _ ?_) (sQ e h) _))
  ·exact B Array.size_replicate (aw (qB.mpr (lK p.2)) dc)
  ·refine B Array.toList_replicate (B List.map_replicate ?_);rfl
 |ref x=>refine sV (e:dq (λH=>(vR H).bind λns=>if(ns.all (λi=>decide (0<=i/\i<256))&&decide (ns.length<=aI))=true then some (PV.bytes (ns.map Int.toNat)) else none) none (Y x)=some r) λH g e=>ai (BA.mp e) λns e1 e2=>gx e2 λc e=>?_;have c:=V c;have l:∀n∈ns,0<=n/\n<256:=λn b=>cf (bI.mp c.1 n b);refine ai (I.mt.aa x _ g) λN G q=>?_;rw[Py e1] at q;have z:=q.length;rw[aW] at z;exact call_bytes_ints (eL.eG G) ((q.qQ (C:=λy ns=>IntsAre y ns) .nil λ{v a y J} U O d=>Pz (C:=λv=>IntsAre (v::y) (a::J)) U λt=>.cons _ _ d)) l (by exact B z (aw (cf c.2) dc)) C λM t k D=>ar.ext I D (.bytes _ _ ((by unfold byteArr;refine B cV ?_;apply gF;refine λn b=>(?_:(n.toNat.toUInt8).toNat=_);simp[Nat.toUInt8,((Int.toNat_lt (l n b).1).mpr (l n b).2)]))) (sQ e h) k
 |_=>exact nn rfl e
theorem Qz (a:X.cps.toList=l)(e:sS l=some r)(b:Q r Y):wpAny (model j.prog j.w) A (call (.builtin "ord") [.str X t]) (bN j f Y m s Q) E s:=by
 refine az (jB a) ?_;cases l with
 |nil=>exact nn rfl e
 |cons c l=>cases l with
  |cons O O=>exact nn rfl e
  |nil=>exact PySem.P.ord_of_char (ar.now I (.int _ _) (sQ e b) _)
omit I in
theorem QA {i:Int}(a:0<=i)(h:i<1000):Nat.log2 i.natAbs<1920:=by
 have b:i.natAbs<2^1920:=lG (f5.mp (B (Int.natAbs_of_nonneg a) h):i.natAbs<1000) (by decide+kernel);by_cases a:i.natAbs=0
 ·refine B a ?_;decide
 ·exact(Nat.log2_lt a).mpr b
theorem QB (l:A.handled=none)(e:y7 Y (·.all id) u=some r)(p:ag s.heap v u)(c:Q r Y):wpAny (model j.prog j.w) A (call (.builtin "all") [v]) (bN j f Y m s Q) E s:=
 zj p e λx e=>sV e λD h e=>by
  refine ai (fW.mp e) λd e1 e=>ai (I.mt.aa x _ h) λC a g=>?_;have a:=eL.eG a;rw[Hm e1] at g;rw[HR g] at a;refine call_all_walk (wpAny_pyIter_list a ⟨s.heap.objs.size,[s.heap.objs.size,x],[s.heap.objs.size],_,_,_,λi=>(d[i]?).getD true,rfl,Walks.list (A:=A.in1) l _ x (kO (HS a)) _,
   ⟨⟨_,eK _ rfl,rfl,rfl⟩,a.push _⟩,λi v H y w k c=>?_,λz t n=>?_⟩)
  ·refine ai (HT ((jP ..).symm.trans k)) λb e q=>?_
   exact B q (kK (by rw[show(λi=>(d[i]?).getD true) i=b from br (·.getD true) e] at c;exact c))
  ·rw[ei,aW,PyProof.Rows.LSm.range_all d]
   exact ar.ext I (HU n) (.bool _) (e▸c) t
theorem QC (l:A.handled=none)(e:y7 Y (·.any id) u=some r)(p:ag s.heap v u)(c:Q r Y):wpAny (model j.prog j.w) A (call (.builtin "any") [v]) (bN j f Y m s Q) E s:=
 zj p e λx e=>sV e λD h e=>by
  refine ai (fW.mp e) λd e1 e=>ai (I.mt.aa x _ h) λC a g=>?_;have a:=eL.eG a;rw[Hm e1] at g;rw[HR g] at a;refine call_any_walk (wpAny_pyIter_list a ⟨s.heap.objs.size,[s.heap.objs.size,x],[s.heap.objs.size],_,_,_,λi=>(d[i]?).getD false,rfl,Walks.list (A:=A.in1) l _ x (kO (HS a)) _,
   ⟨⟨_,eK _ rfl,rfl,rfl⟩,a.push _⟩,λi v H y w k c=>?_,λz t n=>?_⟩)
  ·refine ai (HT ((jP ..).symm.trans k)) λb e q=>?_
   rw[q];exact kK (by rw[show(λi=>(d[i]?).getD false) i=b from br (·.getD false) e] at c;exact c)
  ·rw[ei,aW,PyProof.Rows.LSm.range_any d]
   exact ar.ext I (HU n) (.bool _) (e▸c) t
theorem QD (g:A.handled=none)(b:Bi){h:List PV}(e:gJ Y b h=some r)(rs:aJ s.heap q h)(c:Q r Y):
  wpAny (model j.prog j.w) A (b.run q) (bN j f Y m s Q) E s:=by
 cases b with
 |len=>exact kY rs e λv p a e=>Qx I e a c
 |mS=>exact kY rs e λv p a e=>vZ a e λX t l k e=>Qz I k e c
 |pq=>exact kY rs e λv p a e=>hY a e λi t e=>gx e λd e=>PySem.P.chr_of_int (by refine B (iM (jv.mpr d.1)) (B (iM (jv.mpr (lJ (lK d.2) dc))) ?_);rfl) (ar.now I (.str _ _ rfl) (sQ e c) _)
 |bytes=>exact kY rs e λv p a e=>Qy I g e a c
 |str=>exact kY rs e λv p a e=>hY a e λi t e=>gx e λd e=>PySem.P.str_of_int (QA d.1 d.2) (ar.now I (.str _ _ (az (yq d.1) ((by rw[Str.ofString_eq_toList];rfl)))) (sQ e c) _)
 |all=>exact kY rs e λv p a e=>QB I g e a c
 |any=>exact kY rs e λv p a e=>QC I g e a c
 |int=>exact kY rs e λv p a e=>hY a e λi t e=>call_int_int (ar.here I (.int _ _) (sQ e c))
 |tuple=>exact kY rs e λv p a e=>Pw a e λx q h n u e=>call_tuple_same n (ar.here I (.av n u) (sQ e c))
 |isStr=>
  refine kY rs e λv p a e=>?_
  induction a using ag.casesOn with
  |str X t k=>exact PySem.IsiPair.str_str (ar.here I (.bool true) (sQ e c))
  |none=>exact PySem.IsiPair.NoneType_str (ar.now I (.bool false) (sQ e c) _)
  |_=>exact nn rfl e
 |_=>exact nn rfl e
end
theorem HV (x:Bs)(l:List Bs):(sP x l).Perm (x::l):=by
 induction l with
 |nil=>exact .refl _
 |cons y r a=>
  refine(?_:(if x<=y then x::y::r else y::sP x r).Perm _);by_cases h:x<=y
  ·rw[aG h]
  ·rw[aH h];exact(a.cons y).trans (.swap x y r)
theorem iR (l:List Bs):(dS l).Perm l:=by
 induction l with
 |nil=>exact .refl _
 |cons x r a=>exact(HV x _).trans (a.cons x)
theorem QE (x:Bs)(l:List Bs)(h:l.Pairwise (·<=·)):(sP x l).Pairwise (·<=·):=by
 induction l with
 |nil=>exact BB ..
 |cons y r d=>
  have c:=List.pairwise_cons.mp h;refine(?_:(if x<=y then x::y::r else y::sP x r).Pairwise _);by_cases a:x<=y
  ·exact B (aG a) (List.pairwise_cons.mpr ⟨λz b=>(d4.mp b).elim (λq=>q▸a) λb=>List.le_trans a (c.1 z b),h⟩)
  ·exact B (aH a) (List.pairwise_cons.mpr ⟨λz b=>(d4.mp ((HV x r).mem_iff.mp b)).elim (λq=>q▸(List.le_total x y).resolve_left a) (c.1 z),d c.2⟩)
theorem HW (l:List Bs):(dS l).Pairwise (·<=·):=by
 induction l with
 |nil=>exact .nil
 |cons x r a=>exact QE x _ a
theorem HX (p:a.Perm l)(o:a.Pairwise (·<=·)):a=dS l:=
 List.Perm.eq_of_pairwise (λO O O O b c=>List.le_antisymm b c) o (HW l) (p.trans (iR l).symm)
@[reducible] def zM:KeyKind where
 α:=List Nat
 blt a b:=decide (a<b)
 irrefl a:=strKind.irrefl a
 trans a b c:=strKind.trans a b c
 negTrans a b c:=strKind.negTrans a b c
 total a b:=strKind.total a b
 keyOf v:=match v with|.bytes x _=>some (x.toList.map UInt8.toNat)|_=>none
 dflt:=[]
namespace BK
theorem HY:Slot "bytes" (cmpInfo .Lt).2.1 "bytes.__lt__":=
 .of (owner:="bytes") (n:="__lt__") (by rw[qx,qt];kernel_rfl) (by decide+kernel) (by decide+kernel) (by decide+kernel)
  (.inl (by decide+kernel)) (by rw[qz];kernel_rfl)
theorem QF:entryFor table "bytes.__lt__"=some Builtin.«bytes.__lt__»:=entryFor_of_tree cA
theorem QG (a b:Value):argsOk "bytes.__lt__" ⟨[a,b],[]⟩:=by unfold argsOk;rw[u7 (id:="bytes.__lt__") (n:=['_','_','t','l','_','_']) (o:=['s','e','t','y','b']) cA uX];kernel_rfl
theorem QH (a b:List UInt8):(Builtin.Bytes.order a b==.lt)=decide (a.map UInt8.toNat<b.map UInt8.toNat):=by
 induction a generalizing b with
 |nil=>cases b<;>simp[Builtin.Bytes.order]
 |cons x a e=>cases b with
  |nil=>simp[Builtin.Bytes.order]
  |cons y b=>
   rw[c3,c3,Builtin.Bytes.order,decide_eq_decide.mpr List.cons_lt_cons_iff];by_cases c:x<y
   ·rw[aG c,f3 (.inl c)];rfl
   ·by_cases d:x>y
    ·rw[aH c,aG d,iM λq=>q.elim c λz=>Nat.lt_irrefl _ (z.1▸(show y.toNat<x.toNat from d))];rfl
    ·rw[aH c,aH d,e b,(UInt8.le_antisymm (UInt8.not_lt.mp d) (UInt8.not_lt.mp c))]
     exact decide_eq_decide.mpr ⟨λz=>.inr ⟨rfl,z⟩,λz=>z.elim (λq=>absurd q (Nat.lt_irrefl _)) And.right⟩
end BK
section
variable {E:Value->Shared->Prop}
theorem QI (h:Q (.bool (decide (a.toList.map UInt8.toNat<b.toList.map UInt8.toNat))) s):
  wpAny (model c w) A (call (.builtin "bytes.__lt__") [.bytes a t,.bytes b u]) Q E s:=by
 refine wpAny_call_entry BK.HY (cY s a t) BK.QF ((ae (wpAny_isInstance (cY s b u) F.sub_bytes_bytes ?_)):wpAny _ _ (isInstance (.bytes b u) (.type "bytes")>>=λr=>_) _ _ s) (BK.QG _ _);refine aU (aQ _ rfl ?_);rw[←BK.QH] at h;exact h
theorem QJ (h:Q (decide (a.toList.map UInt8.toNat<b.toList.map UInt8.toNat)) s):wpAny (model c w) A (oneLt' true (.bytes a t) (.bytes b u)) Q E s:=by rw[oneLt'_eq,aG rfl];refine ae (wpAny_cRoomFor_byValue rfl (ae (wpAny_callSpecialIfBound?_slot (cY s a t) BK.HY (QI ?_))));exact kK h
end
theorem HZ (h:zM.keyOf v=some a):∃x t,v=.bytes x t/\x.toList.map UInt8.toNat=a:=by
 cases v with
 |bytes x t=>exact gE x t rfl (bo h)
 |_=>exact nn rfl h
theorem H0:zM.OneLt:=by refine λj w A E s x y a b Q c d h=>fj (HZ c) λu t g i=>fj (HZ d) λl k e f=>B g (B e ?_);rw[←i,←f] at h;exact QJ h
theorem H4 {f:e->Sem i}{l:List e}(h:∀a∈l,f a=pure (g a)):l.mapM f=pure (l.map g):=by
 induction l with
 |nil=>refine B List.mapM_nil ?_;rfl
 |cons a l d=>rw[List.mapM_cons,h a (.head _),d λb c=>h b (.tail _ c),pure_bind,pure_bind];rfl
theorem H6 {T:String}{a:List Value}(d:∀v∈b::c::a,firstOfTuple' v=pure none)(e:∀v∈b::c::a,typeOf v=pure (.type T)):keyKind' (b::c::a).toArray=pure oneType':=by
 rw[keyKind'_eq,List.mapM_toArray,H4 (g:=λO=>none) d];simp only[map_pure,pure_bind];rw[aH (by simp),if_neg (by simp)];rw[oneTypeOnly'_eq,List.mapM_toArray,H4 (g:=λO=>Value.type T) e];simp only[map_pure,pure_bind];have f:((List.map (λO=>Value.type T) (b::c::a)).toArray.all λx=>x==Value.type T)=true:=by simp
 refine B (by simp:(List.map (λO=>Value.type T) (b::c::a)).toArray[0]? =some (Value.type T)) ?_;simp only[f,if_true,pure_bind,Option.isSome_some]
theorem zN {f:List Bs}(r:aJ h b (f.map c)):∀v∈b,∃l,ag h v (c l):=
 r.qQ (C:=λb O=>∀v∈b,∃l,ag h v (c l)) (λO a=>absurd a List.not_mem_nil) λ{_ l _ _} e O d v a=>(d4.mp a).elim (λq=>⟨l,q▸e⟩) (d v)
theorem H7 (e:∀v l,ag h v (c l)->key v=l){a:List Bs}(r:aJ h b (a.map c)):b.map key=a:=
 r.qQ (C:=λb a=>b.map key=a) rfl λf O d=>B c3 (B d (B (e _ _ f) rfl))
theorem H8 (e:∀v l,ag h v (b l)->key v=l)(d:∀v∈a,∃l,ag h v (b l)):aJ h a ((a.map key).map b):=by
 induction a with
 |nil=>exact .nil
 |cons w a g=>exact Ke (d w (.head _)) λl c=>.cons (B (e _ _ c) c) (g λv f=>d v (.tail _ f))
theorem H9 {key:Value->Bs}(k:∀v l,ag h v (d l)->key v=l){b:List Value}(r:aJ h b (q.map d)){a:Array Keyed}(t:a.Perm (pairsOf b))
  (u:∀i j (f:i<a.size) (g:j<a.size),i<=j->key a[i].1<=key a[j].1):aJ h (a.map (·.2)).toList ((dS q).map d):=by
 have m:a.toList.Perm (b.zip b):=by rw[←pairsOf_toList];exact By.mp t
 have e:(a.map (·.2)).toList=a.toList.map (·.1):=by exact B Array.toList_map (gF λp c=>((λp c=>mem_zip_self (m.mem_iff.mp c)) p c).1.symm)
 have n:(a.toList.map (·.1)).Perm b:=by have:=m.map Prod.fst;rwa[List.map_fst_zip (dE _)] at this
 refine B e ?_;have e2:(a.toList.map (·.1)).map key=dS q:=by
  refine HX ?_ ?_
  ·have:=n.map key
   rwa[H7 k r] at this
  ·rw[cV,List.pairwise_iff_getElem]
   intro i j f g s;simp only[List.getElem_map,Array.getElem_toList,Function.comp];exact u i j (by simpa using f) (by simpa using g) (Nat.le_of_lt s)
 exact az e2 (H8 k λv w=>zN r v (n.mem_iff.mp w))
noncomputable def pN (v:Value):Bs:=match v with|.str x _=>x.cps.toList|_=>[]
noncomputable def CZ (v:Value):Bs:=match v with|.bytes x _=>x.toList.map UInt8.toNat|_=>[]
theorem C0 (v:Value)(l:Bs)(r:ag h v (.str l)):pN v=l:=v9 (C:=λv=>pN v=l) r λO O e=>e
theorem QK (v:Value)(l:Bs)(r:ag h v (.bytes l)):CZ v=l:=zo (C:=λv=>CZ v=l) r λO O e=>e
inductive wg (j:KeyKind)(h:Heap)(d:List Value)(k:List PV):Prop
 |mk (a:PyProof.Rows.KeysOf j (pairsOf d)) (b:∀g i f,d=g::i::f->keyKind' (g::i::f).toArray=pure oneType') (c:∀e:SortSt,(arrOf e).Perm (pairsOf d)->SortedToK j (arrOf e) (pairsOf d).size->aJ h ((arrOf e).map (·.2)).toList k)
theorem Ia {n:List Bs}(r:aJ h g (n.map .str)):wg strKind h g ((dS n).map .str):=by
 have d:∀v∈g,∃x t,v=.str x t:=λv c=>Ke (zN r v c) λl y=>v9 (C:=λv=>∃x t,v=.str x t) y λx t O=>mH x t rfl;refine⟨λp b=>?_,λA H z e=>?_,λa b w=>H9 C0 r b λi j f m s=>?_⟩
 ·rw[pairsOf_toList] at b
  exact eJ (d _ (mem_zip_self b).2) λx t e=>⟨x.cps.toList,B e rfl⟩
 ·rw[e] at d
  exact H6 (T:="str") (λv c=>by refine eJ (d v c) λx t q=>B q ?_;rfl) (λv c=>by refine eJ (d v c) λx t q=>B q ?_;rfl)
 ·have u:(arrOf a).toList.Perm (g.zip g):=by rw[←pairsOf_toList];exact By.mp b
  have aa:∀i (f:i<(arrOf a).size),KK strKind (arrOf a) i=pN (arrOf a)[i].1:=λi f=>by refine eJ (d _ (mem_zip_self (u.mem_iff.mp (show(arrOf a)[i]∈(arrOf a).toList by simp))).2) λx t e=>B (KK_str f (x:=x) (t:=t) (q:=(arrOf a)[i].2) (Prod.ext e rfl)) (B e ?_);rfl
  have k:=w i j s (az b.size_eq m);rw[aa i f,aa j m] at k;exact List.not_lt.mp (yt k)
theorem Ib {n:List Bs}(r:aJ h g (n.map .bytes)):wg zM h g ((dS n).map .bytes):=by
 have d:∀v∈g,∃x t,v=.bytes x t:=λv c=>Ke (zN r v c) λl y=>zo (C:=λv=>∃x t,v=.bytes x t) y λx t O=>⟨x,t,rfl⟩;refine⟨λp b=>?_,λA H z e=>?_,λa b w=>H9 QK r b λi j f m s=>?_⟩
 ·rw[pairsOf_toList] at b
  exact eJ (d _ (mem_zip_self b).2) λx t e=>⟨x.toList.map UInt8.toNat,B e rfl⟩
 ·rw[e] at d
  exact H6 (T:="bytes") (λv c=>by refine eJ (d v c) λx t q=>B q ?_;rfl) (λv c=>by refine eJ (d v c) λx t q=>B q ?_;rfl)
 ·have u:(arrOf a).toList.Perm (g.zip g):=by rw[←pairsOf_toList];exact By.mp b
  have aa:∀i (f:i<(arrOf a).size),KK zM (arrOf a) i=CZ (arrOf a)[i].1:=λi f=>by refine eJ (d _ (mem_zip_self (u.mem_iff.mp (show(arrOf a)[i]∈(arrOf a).toList by simp))).2) λx t e=>?_;unfold KK;refine B (getElem?_pos (arrOf a) i f) ?_;dsimp only;refine B e ?_;rfl
  have k:=w i j s (az b.size_eq m);rw[aa i f,aa j m] at k;exact List.not_lt.mp (yt k)
section
variable {s:Shared}{E:Value->Shared->Prop}(I:bk g d Y i s.heap)
include I
theorem QL (r:aJ s.heap a.toList c)(h:bw Y (.list c) Q):bN g d Y i s Q (.ref (s.heap.objs.size+1)) {s with heap:=sortedAll s.heap f a}:=by exact Ke (sortedAll_at s.heap f a) λe b=>ar.zt I (fY (qD _)) (λO O=>sortedAll_old) (yg _ b e (by show seqObj "list" a e=_;rw[seqObj])) r h s.toks
theorem Ic (j:t.OneLt)(m:s.heap.IsList l e.toArray)(k:wg t s.heap e q)(f:e.length<64)(h:bw Y (.list q) Q):
  wpAny (model g.prog g.w) A (call (.builtin "sorted") [.ref l]) (bN g d Y i s Q) E s:=by
 obtain⟨a,b,c⟩:=k;exact sortedK j m a b f λr n p=>QL I (c r n p) h
end
theorem Ie (a:Array Value)(e:Nat):Data.seq a e=Data.seq a.toList.toArray e:=B Array.toArray_toList rfl
theorem Ig [DecidableEq n]{b:KeyKind t w n}(g:∀k v p,b.is k v=true->m k p->ag h v p)(r:cK m h d f):∀{vs:List Value},vs.length=d.length->(∀(j:Nat) (v:Value),vs[j]? =some v->∃k x,d[j]? =some (k,x)/\b.is k v=true)->aJ h vs (f.map (·.1)):=by
 induction r with
 |nil=>intro vs a O;exact B (uH.mp a) (.nil)
 |cons i s q l=>
  intro vs a c;cases vs with
  |nil=>exact(by injection a)
  |cons v vs=>exact fj (c 0 v rfl) λk x e e2=>.cons (g _ _ _ ((Prod.mk.inj (bo e)).1▸e2:b.is _ v=true) i) (l (Nat.succ.inj a) λj=>c (j+1))
theorem Ih (a:Program)(w:World)(k:Str)(v:Value)(p:PV)(e:(PySem.strKind a w).is k v=true)(r:mQ k p):ag h v p:=by exact Ke (Value.isStrOf_shape e) λt q=>B q (B (r:p=_) (.str _ _ rfl))
theorem Ii (a:Program)(w:World)(k:List UInt8)(v:Value)(p:PV)(e:(bytesKind a w).is k v=true)(r:sj k p):ag h v p:=by exact Ke (isBytes_shape e) λt q=>B q (B (r:p=_) (.bytes _ _ rfl))
section
variable (ok:c7 a){s:Shared}{E:Value->Shared->Prop}(I:bk a c Y g s.heap)
include I
theorem QM (e:Y x=some (.list d))(k:d.length<=aI)(h:bw Y (.list d) Q):wpAny (model a.prog a.w) A (call (.type "list") [.ref x]) (bN a c Y g s Q) E s:=by exact ai (I.mt.aa x _ e) λq l b=>Ke l.vW λn j=>call_list_seq x (.inl rfl) j rfl rfl (λp m i f=>ar.zt I (fY (dE _)) i (eL.of f) b h s.toks) (B ei (B b.length (aw k dc)))
theorem QN (i:s.heap.get? D=none)(j:fp s.heap f)(d:f.get? D=some (seqObj "list" m.toArray 0))(u:H.OneLt)(k:wg H s.heap m y)(t:m.length<64)(h:bw Y (.list y) Q):
  wpAny (model a.prog a.w) A (call (.builtin "list.sort") [.ref D]) (λO z=>bN a c Y g s Q (.ref D) z) E (aa s f tk):=by
 obtain⟨r,w,x⟩:=k;exact wpAny_call_entry slot_list_sort (aQ _ d rfl) entry_list_sort (list_sort_treeK u d r w t λl n p=>aQ _ rfl (Ke (sortedHeap_at (out:=(arrOf l).map (·.2)) d) λe v=>ar.zt I i (λb o e=>B (sortedHeap_old ((λb o e q=>nn (q▸i) e) b o e) (o9 (j b o e))) (j b o e)) (yg _ v e (by show seqObj "list" _ e=_;unfold seqObj;rw[←Ie])) (x l n p) h tk)) (args_list_sort _)
include ok
theorem Ij [DecidableEq G]{e:KeyKind a.prog a.w G}(y:∀k v p,e.is k v=true->C k p->ag s.heap v p)(u:A.handled=none)(r:Y x=some (.dict f b))(d:s.heap.DictAt e x l f)(m:cK C s.heap l b)
  (H:b.length<=aI) (h:bw Y (.list (b.map (·.1))) Q):wpAny (model a.prog a.w) A (call (.type "list") [.ref x]) (bN a c Y g s Q) E s:=by
 exact kdl_call (kdl_dict (knd:=e) (kvs:=l) (ep:=f) (m8 ok I r)) u d (B m.length (aw H dc)) λU D n q w t i=>ar.zt I (fY (dE _)) w (yg _ t q (by rw[←Ie])) (Ig y m (vs:=n.toList) (B lF i.1) λj v z=>i.2 j v (by simpa using z)) h D
theorem Ik [DecidableEq C]{l:KeyKind a.prog a.w C}{z:C->PV->Prop}(L:∀k v p,l.is k v=true->z k p->ag s.heap v p)(U:A.handled=none)(D:Y x=some (.dict n i))(d:s.heap.DictAt l x m n)(H:cK z s.heap m i)
  (y:i.length<64) (G:κ.OneLt)
  (J:∀vs:List Value,aJ s.heap vs (i.map (·.1))->wg κ s.heap vs N) (h:bw Y (.list N) Q):
  wpAny (model a.prog a.w) A (call (.builtin "sorted") [.ref x]) (bN a c Y g s Q) E s:=by
 refine Calls.call_function_entry kind_sorted plain_sorted entry_sorted (args_sorted1 _) ?_;unfold Builtin.«sorted»;refine ae (m:=checkCount "sorted" 1 1 _) (aU (ae (kdu_collect (A:=A.in1) (kdl_dict (knd:=l) (kvs:=m) (ep:=n) (m8 ok I D)) U d (B H.length (aw (ip y) dc):m.length<=sizeLine) λh' tk f u t=>?_)));have r:=Ig L H (vs:=f.toList) (B lF t.1) λj v M=>t.2 j v (by simpa using M);have w:f.toList.length<64:=by rw[r.length,aW];exact y
 exact ae (uY (ae (dm (bM (QN (tk:=tk) (A:=A.in1) (E:=E) I (gu (λo q e=>nn e (u _ _ q)) (fY (dE _))) (λb o e=>cR {cls:=.type "list",data:=.seq f.toList.toArray} (u b o e)) (eK _ rfl) G (J _ r) w h) (λO s' x=>aU (aQ _ rfl x)) λO O e=>e))) (aw (ip w) dc))
end
section
variable (ok:c7 a){s:Shared}{E:Value->Shared->Prop}(I:bk a c Y i s.heap)
include ok I
omit ok I in
theorem Il {P:Prop}(h:bQ (ot g) f)(k:∀b:List Bs,g=b.map .str->f ((dS b).map .str)->P)(l:∀b:List Bs,g=b.map .bytes->f ((dS b).map .bytes)->P):P:=
 ff h λm d h=>by
  unfold ot at d;cases q:kR g with
  |some b=>rw[q] at d;exact k b (CM q) (bo d▸h)
  |none=>rw[q] at d;exact ai (fW.mp d) λb j e=>l b (CN j) (e▸h)
omit ok I in
theorem Im {b:List Bs}(e:g.map (·.1)=b.map f)(j:∀l (v:PV),dr k [(f l,v)]=true):dr k g=true:=by unfold dr;rw[bI];intro d h;have:d.1∈b.map f:=e▸List.mem_map_of_mem h;refine ai (bJ.mp this) λl O m=>az m ?_;have:=j l .none;unfold dr at this;rw[List.all_cons] at this;exact(V this).1
theorem QO (k:A.handled=none){Q:PV->AH->Prop}(h:pG x Q Y):wpAny (model a.prog a.w) A (call (.builtin "sorted") [.ref x]) (bN a c Y i s Q) E s:=by
 unfold pG at h;cases b:Y x with
 |none=>rw[b] at h;exact False.elim h
 |some o=>
  rw[b] at h;cases o with
  |list u=>refine ai (I.mt.aa x _ b) λt e f=>?_;have e:=eL.eG e;exact Il h (λg e1 h=>Ic I strKind_oneLt e (Ia (e1▸f)) (by rw[f.length];exact h.1) h.2) λg e1 h=>Ic I H0 e (Ib (e1▸f)) (by rw[f.length];exact h.1) h.2
  |dict p q=>
   refine Il h (λg e1 h=>?_) (λg e1 h=>?_)
   ·exact ai (CR (I.mt.aa x _ b) (Im (k:=.str []) e1 λl v=>rfl)) λm d j=>Ik ok I (Ih a.prog a.w) k b d j h.1 strKind_oneLt (λn r=>Ia (e1▸r)) h.2
   ·exact ai (CS (I.mt.aa x _ b) (Im (k:=.bytes []) e1 λl v=>rfl)) λm d j=>Ik ok I (Ii a.prog a.w) k b d j h.1 H0 (λn r=>Ib (e1▸r)) h.2
  |_=>exact False.elim h
theorem QP (f:A.handled=none){Q:PV->AH->Prop}(h:sW x Q Y):wpAny (model a.prog a.w) A (call (.type "list") [.ref x]) (bN a c Y i s Q) E s:=by
 unfold sW at h;cases b:Y x with
 |none=>rw[b] at h;exact False.elim h
 |some o=>
  rw[b] at h;cases o with
  |list l=>exact QM I b h.1 h.2
  |dict j k=>
   rcases I.mt.aa x _ b with⟨g,d,e⟩|⟨g,d,e⟩
   ·exact Ij ok I (Ih a.prog a.w) f b d e h.1 h.2
   ·exact Ij ok I (Ii a.prog a.w) f b d e h.1 h.2
  |_=>exact False.elim h
theorem Io (d:A.handled=none)(b:Bi)(rs:aJ s.heap j g)(h:iz b g Q Y):wpAny (model a.prog a.w) A (b.run j) (bN a c Y i s Q) E s:=by
 have fu:bQ (gJ Y b g) (λr=>Q r Y)->wpAny (model a.prog a.w) A (b.run j) (bN a c Y i s Q) E s:=λh=>ff h λr e h=>QD I d b e rs h;cases b with
 |sorted=>exact kX rs h λv p f h=>jd f h λx h=>QO ok I d h
 |list=>exact kX rs h λv p f h=>jd f h λx h=>QP ok I d h
 |_=>exact fu h
end
section
variable {s:Shared}{E:Value->Shared->Prop}(I:bk j d Y l s.heap)
include I
theorem ar.C1 {vs ws:List Value}(e:Y a=some (.list y))(u:s.heap.get? a=some {cls:=.type "list",data:=.seq vs.toArray n})(f:Array Value->Array Value)(r:f vs.toArray=ws.toArray)(w:aJ s.heap ws m)(x:∀h',(cb s.heap h')->R h' v p)(h:Q p (Y.set a (.list m)))(k:Nat):ar j R d Y l s Q v (aa s (s.heap.update a (Obj.mapSeq f)) k):=by
 have b:∃i,(s.heap.update a (Obj.mapSeq f)).get? a=some {cls:=.type "list",data:=.seq ws.toArray i}:=by have:=IsL.update (l:=a) (items:=vs.toArray) (n:=n) u f;rw[r] at this;exact⟨_,this⟩
 obtain⟨i,b⟩:=b;have g:=Go.iC (h':=s.heap.update a (Obj.mapSeq f)) (o':=.list m) I e (λc q z=>bS.noConfusion z) (λc q z=>bS.noConfusion z) (o5 ..) λt=>aQ ws (eL.of b) (aJ.bU t w);exact⟨p,_,l,_,k,rfl,g,x _ (I.mt.lX g.bh),h⟩
theorem ar.C2 (e:Y a=some (.dict ep q))(k:Heap.SameBut a s.heap h')(f:(cb s.heap h')->∃b,eT j l h' a (.dict b g))(n:∀h',(cb s.heap h')->R h' v p)(h:∀b,Q p (Y.set a (.dict b g)))(i:Nat):ar j R d Y l s Q v (aa s h' i):=by have t:=mZ k λvs t=>I.mt.ze t (.inl (B e (λz=>(by injection z))));obtain⟨b,f⟩:=f t;exact⟨p,_,l,_,i,rfl,(Go.iC (h':=h') (o':=.dict b g) I e (λc m z=>bS.noConfusion z) (λc m z=>bS.noConfusion z) k λO=>f),n _ t,h b⟩
theorem QQ (e:Y a=some (.list g))(m:ag s.heap v p)(k:g.length<=aI){Q:PV->AH->Prop}(h:Q .none (Y.set a (.list (g++[p])))):
  wpAny (model j.prog j.w) A (call (.builtin "list.append") [.ref a,v]) (bN j d Y l s Q) E s:=by
 refine ai (I.mt.aa a _ e) λf q c=>uD q λo b n i=>?_;subst i;exact n8 PySem.F.slot_list_append ⟨_,b,rfl⟩ PySem.F.entry_list_append (PySem.F.args_list_append_2 _ _) (list_append a f.toArray n v (B ei (B c.length (aw k dc)))) ⟨b,ar.C1 (ws:=f++[v]) I e b _ (by simp) (c.append (.cons m .nil)) (λO O=>.none) h _⟩
theorem QR (e:Y a=some (.list p))(e2:Y b=some (.list ys))(k:(p++ys).length<=aI)(h:Q .none (Y.set a (.list (p++ys)))):
  wpAny (model j.prog j.w) A (call (.builtin "list.extend") [.ref a,.ref b]) (bN j d Y l s Q) E s:=by
 refine ai (I.mt.aa a _ e) λf v g=>uD v λo c n q=>?_;subst q;refine ai (I.mt.aa b _ e2) λws w i=>uD w λx t u r=>?_;subst r;rw[bR] at k;have m:f.toArray.size+ws.toArray.size<=sizeLine:=B ei (B ei (B g.length (B i.length (aw k (by decide)))));exact n8 PySem.F.slot_list_extend (aQ _ c rfl) PySem.F.entry_list_extend (PySem.F.args_list_extend_2 _ _) (AutoSeq1.list_extend_list_list_0 a f.toArray n b ws.toArray u (extend_door m) (aw (gn _ _) m)) (aS c t (ar.C1 (ws:=f++ws) I e c _ (by simp) (g.append i) (λO O=>.none) h _))
theorem QS (e:Y a=some (.list f))(k:f.getLast? =some x)(u:f.length<=aI)(h:Q x (Y.set a (.list f.dropLast))):
  wpAny (model j.prog j.w) A (call (.builtin "list.pop") [.ref a]) (bN j d Y l s Q) E s:=by
 refine ai (I.mt.aa a _ e) λb w c=>uD w λo g n p=>?_;subst p;rw[List.getLast?_eq_getElem?] at k;obtain⟨y,m,v⟩:=c.get k;have i:=c.length;refine n8 PySem.F.slot_list_pop (aQ _ g rfl) PySem.F.entry_list_pop (PySem.F.args_list_pop_1 _) (MeetsSeq.list_pop_last a b.toArray n y (by simpa[i] using m) (B List.size_toArray (B c.length (Nat.le_trans u dc)):b.toArray.size<=sizeLine)) ⟨g,?_⟩;have r:aJ s.heap b.dropLast f.dropLast:=by exact B List.dropLast_eq_take (B List.dropLast_eq_take (B i (c.take _)))
 refine ar.C1 (ws:=b.dropLast) I e g _ ?_ r (λO t=>ag.bU t v) h _;apply Array.toList_inj.mp;have q:b.length-1<b.length:=by have:=(kH.mp m).1;lia
 simp only[List.size_toArray];unfold Array.eraseIdxIfInBounds;refine B (dif_pos (by simpa using q)) (B Array.toList_eraseIdx ?_);simp[List.eraseIdx_length_sub_one]
end
inductive QT (h:Heap)(p:Option PV)(v:Value):Prop
 |mk (q:PV) (e:p=some q) (r:ag h v q)
inductive QU (h:Heap)(v:Option Value)(p:PV):Prop
 |mk (u:Value) (e:v=some u) (r:ag h u p)
theorem iO.some (r:iO h (some v) p):QT h p v:=by
 cases p with
 |none=>exact r.elim
 |some q=>exact⟨q,rfl,r⟩
theorem iO.Ip (r:iO h v (.some p)):QU h v p:=by
 cases v with
 |none=>exact r.elim
 |some q=>exact⟨q,rfl,r⟩
theorem iO.none (r:iO h none p):p=.none:=by
 cases p with
 |none=>rfl
 |some q=>exact r.elim
theorem iO.Iq (r:iO h v .none):v=.none:=by
 cases v with
 |none=>rfl
 |some q=>exact r.elim
theorem iO.getD (r:iO h v p)(k:ag h d u):ag h (v.getD d) (p.getD u):=by
 cases p with
 |none=>exact B r.Iq k
 |some q=>obtain⟨v,a,r⟩:=r.Ip;refine B a ?_;exact r
section
variable (ok:c7 f){s:Shared}{E:Value->Shared->Prop}(I:bk f c Y g s.heap)
include ok I
theorem QV (e:Y a=some (.dict p i))(n:ag s.heap l k)(b:(k.jb&&dr k i)=true)(h:Q ((el i k).getD .none) Y):
  wpAny (model f.prog f.w) A (call (.builtin "dict.get") [.ref a,l]) (bN f c Y g s Q) E s:=by
 obtain⟨q,r,a8,key,j,u,b,t,d,m,O⟩:=pM I e n b;exact call_meetsIn PySem.F.slot_dict_get d.dictOf.typeIs PySem.F.entry_dict_get (PySem.F.args_dict_get_2 _ _) (meets_dict_get _ a j (m8 ok I e)) (aQ _ d.dictOf.mapOf (ar.now I ((m.get a8 b).getD .none) h _))
theorem QW (e:Y a=some (.dict t j))(r:ag s.heap n k)(b:(k.jb&&dr k j)=true)(q:ag s.heap i l)(h:Q ((el j k).getD l) Y):
  wpAny (model f.prog f.w) A (call (.builtin "dict.get") [.ref a,n,i]) (bN f c Y g s Q) E s:=by
 obtain⟨u,v,a8,key,m,x,b,w,d,p,O⟩:=pM I e r b;exact call_meetsIn PySem.F.slot_dict_get d.dictOf.typeIs PySem.F.entry_dict_get (PySem.F.args_dict_get_3 _ _ _) (meets_dict_get_default _ a m (m8 ok I e) i) (aQ _ d.dictOf.mapOf (ar.now I ((p.get a8 b).getD q) h _))
theorem QX (e:Y a=some (.dict ep b))(L:ag s.heap U k)(i:(k.jb&&dr k b)=true)(D:b.length<=aI)(w:ag s.heap u n)
  (h:match el b k with|some x=>Q x Y|none=>∀z,Q n (Y.set a (.dict z (fx b k n)))):
  wpAny (model f.prog f.w) A (call (.builtin "dict.setdefault") [.ref a,U,u]) (bN f c Y g s Q) E s:=by
 obtain⟨N,kr,a8,key,G,part,i,J,d,m,y⟩:=pM I e L i;have j:=m.get a8 i;refine call_meetsIn PySem.F.slot_dict_setdefault d.dictOf.typeIs PySem.F.entry_dict_setdefault (PySem.F.args_dict_setdefault_3 _ _ _) (kt_meets_setdefault _ a G (m8 ok I e) u)
  (aQ J d.dictOf (aS (B m.length (aw D dc)) (λv l=>?_) (λl M C H=>?_)))
 ·rw[l] at j
  obtain⟨p,q,r⟩:=j.some;rw[q] at h;exact ar.now I r h _
 ·rw[l] at j
  rw[j.none] at h;exact ar.C2 (ep:=ep) I e H (λt=>y _ _ _ _ C ((m.stored a8 i w).bU t)) (λO t=>ag.bU t w) h _
omit ok in
theorem Ir (e:Y a=some (.dict ep b))(J:ag s.heap n k)(i:(k.jb&&dr k b)=true)(C:b.length<=aI)(H:el b k=some x)
  (h:∀u,Q x (Y.set a (.dict u (pB b k)))) (m:j=[]∨∃d,j=[d]):
  wpAny (model f.prog f.w) A (call (.builtin "dict.pop") (.ref a::n::j)) (bN f c Y g s Q) E s:=by
 have args:argsOk "dict.pop" ⟨.ref a::n::j,[]⟩:=by
  rcases m with rfl|⟨d,rfl⟩
  ·exact PySem.F.args_dict_pop_2 _ _
  ·exact PySem.F.args_dict_pop_3 _ _ _
 obtain⟨M,N,a8,key,D,U,i,G,d,l,q⟩:=pM I e J i;have p:=l.get a8 i;rw[H] at p;obtain⟨v,z,r⟩:=p.Ip;exact call_meetsIn PySem.F.slot_dict_pop d.dictOf.typeIs PySem.F.entry_dict_pop args (meets_dict_pop_there _ a D j m U)
  (lB G v d.dictOf (B l.length (aw C dc)) z (λL y w=>ar.C2 (ep:=ep) I e w (λt=>q _ _ _ _ y ((l.without a8 i).bU t)) (λO t=>ag.bU t r) h _))
theorem QY (e:Y a=some (.dict v j))(t:ag s.heap n (.str l))(b:dr (.str l) j=true)(k:el j (.str l)=none)(h:Q .none Y):
  wpAny (model f.prog f.w) A (call (.builtin "dict.pop") [.ref a,n,.none]) (bN f c Y g s Q) E s:=by
 obtain⟨w,x,a8,key,m,q,b,p,d,r,u⟩:=pM I e t b;have i:=r.get a8 b;have i:=k▸i;exact call_meetsIn PySem.F.slot_dict_pop d.dictOf.typeIs PySem.F.entry_dict_pop (PySem.F.args_dict_pop_3 _ _ _) (meets_dict_pop_default _ a m (m8 ok I e) q .none) (gD p d.dictOf i.Iq (ar.now I .none h _))
omit ok in
theorem It (r:ag s.heap q k)(u:ag s.heap w v){K:AH->Prop}(h:qL Y a k v K):
  wpAny (model f.prog f.w) A (setItem (.ref a) q w) (ar f RU c Y g s (λO Y=>K Y)) E s:=by
 refine Pd h λep x e h=>dD h λb n h=>?_;obtain⟨z,H,a8,key,p,D,b,C,d,i,j⟩:=pM I e r b;exact wpAny_setItem_pairs p d.dictOf (λy m l=>ar.C2 (ep:=ep) (p:=()) I e l (λt=>j _ _ _ _ m ((i.stored a8 b u).bU t)) (λO O=>trivial) h _) (B i.length (aw n dc))
end
noncomputable def toB (l:Bs):Array UInt8:=(l.map Nat.toUInt8).toArray
namespace BK
theorem Iu:Slot "bytes" "split" "bytes.split":=
 .of (owner:="bytes") (n:="split") (by rw[qx,qt];kernel_rfl) (by decide+kernel) (by decide+kernel) (by decide+kernel) (by first|exact .inl (by decide+kernel)|exact .inr (by decide+kernel)) (by rw[qz];kernel_rfl)
theorem QZ:typeOf (.builtin "bytes.split")=pure (.type "method_descriptor"):=by show builtinType _=_;rw[yy];kernel_rfl
theorem Q0:entryFor table "bytes.split"=some Builtin.«bytes.split»:=entryFor_of_tree cA
theorem Q1 (a b:Value):argsOk "bytes.split" ⟨[a,b],[]⟩:=by unfold argsOk;rw[u7 (id:="bytes.split") (n:="split".toList.reverse) (o:=['s','e','t','y','b']) cA uX];kernel_rfl
theorem C3:Slot "bytes" "find" "bytes.find":=
 .of (owner:="bytes") (n:="find") (by rw[qx,qt];kernel_rfl) (by decide+kernel) (by decide+kernel) (by decide+kernel) (by first|exact .inl (by decide+kernel)|exact .inr (by decide+kernel)) (by rw[qz];kernel_rfl)
theorem Q2:typeOf (.builtin "bytes.find")=pure (.type "method_descriptor"):=by show builtinType _=_;rw[yy];kernel_rfl
theorem Iv:entryFor table "bytes.find"=some Builtin.«bytes.find»:=entryFor_of_tree cA
theorem Iw (a b:Value):argsOk "bytes.find" ⟨[a,b],[]⟩:=by unfold argsOk;rw[u7 (id:="bytes.find") (n:="find".toList.reverse) (o:=['s','e','t','y','b']) cA uX];kernel_rfl
theorem Iy:Slot "bytes" "strip" "bytes.strip":=
 .of (owner:="bytes") (n:="strip") (by rw[qx,qt];kernel_rfl) (by decide+kernel) (by decide+kernel) (by decide+kernel) (by first|exact .inl (by decide+kernel)|exact .inr (by decide+kernel)) (by rw[qz];kernel_rfl)
theorem Q3:typeOf (.builtin "bytes.strip")=pure (.type "method_descriptor"):=by show builtinType _=_;rw[yy];kernel_rfl
theorem Q4:entryFor table "bytes.strip"=some Builtin.«bytes.strip»:=entryFor_of_tree cA
theorem Q5 (a b:Value):argsOk "bytes.strip" ⟨[a,b],[]⟩:=by unfold argsOk;rw[u7 (id:="bytes.strip") (n:="strip".toList.reverse) (o:=['s','e','t','y','b']) cA uX];kernel_rfl
theorem C4:Slot "bytes" "join" "bytes.join":=
 .of (owner:="bytes") (n:="join") (by rw[qx,qt];kernel_rfl) (by decide+kernel) (by decide+kernel) (by decide+kernel) (by first|exact .inl (by decide+kernel)|exact .inr (by decide+kernel)) (by rw[qz];kernel_rfl)
theorem Q6:typeOf (.builtin "bytes.join")=pure (.type "method_descriptor"):=by show builtinType _=_;rw[yy];kernel_rfl
theorem Iz:entryFor table "bytes.join"=some Builtin.«bytes.join»:=entryFor_of_tree cA
theorem IA (a b:Value):argsOk "bytes.join" ⟨[a,b],[]⟩:=by unfold argsOk;rw[u7 (id:="bytes.join") (n:="join".toList.reverse) (o:=['s','e','t','y','b']) cA uX];kernel_rfl
theorem C5 (n:Nat):Builtin.Bytes.window n none none=(0,(n:Int)):=by unfold Builtin.Bytes.window;simp;lia
theorem Q7 (b p:Array UInt8)(t u:Tok):Gives (Builtin.«bytes.startswith» ⟨[.bytes b t,.bytes p u],[]⟩) (.val (.bool (if((b.size:Int)-0<p.size) then false else b.extract 0 (0+p.size)==p))):=by refine .of_wp λM A E s Q a=>?_;unfold Builtin.«bytes.startswith» Builtin.Bytes.tailMatchM;refine ae (cG (a:=(Value.bytes b t,[Value.bytes p u])) rfl ?_);dsimp only;refine ae (cG (a:=none) rfl (ae (cG (a:=none) rfl (ae (cG (a:=b) rfl ?_)))));rw[C5];refine ae (wpAny_isInstance (cY s p u) F.sub_bytes_tuple ?_);simp only[Bool.false_eq_true,if_false];exact ae (cG qC (aU ⟨_,rfl,a⟩))
theorem Q8 (b p:Array UInt8)(t u:Tok)(d:b.size<=sizeLine):
  Gives (Builtin.«bytes.strip» ⟨[.bytes b t,.bytes p u],[]⟩) (if(((b.toList.dropWhile p.contains).reverse.dropWhile p.contains).reverse.length==b.size)=true then .val (.bytes b t) else .bytes ((b.toList.dropWhile p.contains).reverse.dropWhile p.contains).reverse.toArray):=by
 refine .of_wp λM A E s Q a=>?_;unfold Builtin.«bytes.strip» Builtin.Bytes.stripM;refine ae (cG (a:=(Value.bytes b t,[Value.bytes p u])) rfl ?_);dsimp only;refine ae (ae (cG qC (aU (ae (aU (ae (cG (a:=b) rfl ?_)))))));simp only[if_true];by_cases c:(((b.toList.dropWhile p.contains).reverse.dropWhile p.contains).reverse.length==b.size)=true
 ·rw[aG c] at a
  rw[aG c];exact ae (mO (ae (cG (a:=Value.bytes b t) rfl (aU ⟨_,rfl,a⟩))))
 ·rw[aH c] at a
  rw[aH c];refine ae ?_;show wpAny M A (mkBytes _) _ E s;exact wpAny_mkBytes (aU ⟨_,rfl,a.2⟩) a.1
theorem Q9 (b p:Array UInt8)(t u:Tok)(d:p.size<=b.size):Gives (Builtin.«bytes.find» ⟨[.bytes b t,.bytes p u],[]⟩) (.int (match Builtin.Bytes.find? b p 0 b.size with|some i=>(i:Int)|none=> -1)):=by
 refine .of_wp λM A E s Q a=>?_;unfold Builtin.«bytes.find» Builtin.Bytes.searchM Builtin.Bytes.searchArgs;refine ae (ae (cG (a:=(Value.bytes b t,[Value.bytes p u])) rfl ?_));dsimp only;refine ae (cG (a:=none) rfl (ae (cG (a:=none) rfl (ae (cG qC (ae (aU (ae (cG (a:=b) rfl ?_)))))))));rw[C5];dsimp only;rw[aH (by rw[Int.sub_zero];exact jv.mpr (i7.mpr d))];refine aU ?_;simp only[Option.bind_some,Bool.false_eq_true,if_false];show wpAny M A (match Builtin.Bytes.find? b p 0 b.size with|some i=>_|none=>_) _ E s;cases c:Builtin.Bytes.find? b p 0 b.size with
 |some i=>rw[c] at a;exact ae (wpAny_mkInt (aU ⟨_,rfl,a⟩))
 |none=>rw[c] at a;exact ae (mO (ae (wpAny_mkInt (aU ⟨_,rfl,a⟩))))
noncomputable def tf:Nat->List (Array UInt8)->List Value
 |_,[]=>[]
 |tk,x::r=>.bytes x tk::tf (tk+1) r
theorem IB {E:Value->Shared->Prop}:∀(ls:List (Array UInt8)) (s:Shared) (Q:List Value->Shared->Prop),(∀l∈ls,l.size<=sizeLine)->Q (tf s.toks ls) {s with toks:=s.toks+ls.length}->
  wpAny M A (ls.mapM (Builtin.Bytes.Kind.bytes.new)) Q E s
 |[],s,Q,_,h=>by rw[List.mapM_nil];exact aU h
 |l::ls,s,Q,a,h=>by
  rw[List.mapM_cons];refine ae (wpAny_mkBytes (ae (IB ls _ _ (λx b=>a x (.tail _ b)) (aU ?_))) (a l (.head _)));have:s.toks+1+ls.length=s.toks+(l::ls).length:=by simp;exact Nat.add_right_comm ..
  rw[←this] at h;exact h
noncomputable def l6 (b p:Array UInt8):List Nat:=(Builtin.Bytes.occurrences b p 0 b.size).take (b.size+1)
theorem Ra (b p:Array UInt8)(t u:Tok)(f:p.isEmpty=false)(g:∀l∈Builtin.Bytes.between b p.size (l6 b p),l.size<=sizeLine)(e:(Builtin.Bytes.between b p.size (l6 b p)).length<=sizeLine):
  Meets (Builtin.«bytes.split» ⟨[.bytes b t,.bytes p u],[]⟩) (λO R s=>
   if(l6 b p).isEmpty=true then R (.ok (.ret (.ref s.heap.objs.size))) {s with heap:=s.heap.push {cls:=.type "list",data:=.seq #[.bytes b t]}}
   else R (.ok (.ret (.ref s.heap.objs.size))) {s with toks:=s.toks+(Builtin.Bytes.between b p.size (l6 b p)).length,heap:=s.heap.push {cls:=.type "list",data:=.seq (tf s.toks (Builtin.Bytes.between b p.size (l6 b p))).toArray}}):=by
 refine .of_wp λi w A R s a=>?_;unfold Builtin.«bytes.split» Builtin.Bytes.splitM;dsimp only;refine ae (cG (a:=[some (Value.bytes p u),none]) (by kernel_rfl) ?_);dsimp only;refine ae (aU ?_);refine ae (cG (a:=b) rfl ?_);refine ae (ae ?_);refine cG qC ?_;refine aU ?_;simp only[f,Bool.false_eq_true,if_false];have d:(if(-1:Int)<0 then b.size+1 else(-1:Int).toNat)=b.size+1:=rfl;rw[d];show wpAny _ A.in1 (if(l6 b p).isEmpty=true then _ else _) _ _ s;split
 ·rename_i c
  rw[aG c] at a;exact ae (mO (ae (cG (a:=Value.bytes b t) rfl (ae (uY (aU ⟨_,rfl,a⟩) (by show 1<=sizeLine;decide))))))
 ·rename_i c
  rw[aH c] at a;refine ae (IB _ _ _ g (ae (uY (aU ⟨_,rfl,a⟩) ?_)));have:∀(l:List (Array UInt8)) (k:Nat),(tf k l).length=l.length:=by
   intro l
   induction l with
   |nil=>intro k;rfl
   |cons x l h=>intro k;simp[tf,h]
  rw[this];exact e
end BK
namespace BK
noncomputable def oy (p:Array UInt8×Tok):Value:=.bytes p.1 p.2
theorem Rb {E:Value->Shared->Prop}{id:String}(h:Q (some (b,none)) s):wpAny M A (Builtin.Bytes.takeBufferQuiet? id (.bytes b t) 0) Q E s:=by unfold Builtin.Bytes.takeBufferQuiet?;refine ae (uZ ?_);unfold Builtin.Bytes.takeBuffer?;refine ae (sf (cY s b t) KBy.look_buffer (ae (cG KBy.own_buffer ?_)));rw[aH (show¬(!true)=true by decide)];exact ae (sf (cY s b t) KBy.look_buffer (ae (cG qC (aU (aU h)))))
theorem IC {E:Value->Shared->Prop}(h:Q () s):∀(fm:List (Value×Option Value)) (bh:List Value),(∀p∈fm,p.2=none)->wpAny M A (Builtin.Bytes.joinLetGo fm bh) Q E s
 |[],bh,_=>aU h
 |(x,w)::b,bh,a=>by have d:=a (x,w) (.head _);subst d;show wpAny M A (letGo [x] _>>=λO=>Builtin.Bytes.joinLetGo b bh) Q E s;exact ae (wpAny_letGo (IC h b bh λp c=>a p (.tail _ c)))
theorem Rc (W:List (Array UInt8×Tok))(i:Nat)(h:i<W.length):(W.map oy).toArray.getD i Value.none=oy W[i]:=by simp[h]
theorem Rd {n k i:Nat}{b:List Nat}(h:i::b=List.range' k (n-k)):k<n/\i=k/\b=List.range' (k+1) (n-(k+1)):=by have a:k<n:=Nat.lt_of_sub_pos (Nat.pos_of_ne_zero λz=>by rw[z] at h;cases h);rw[show n-k=(n-(k+1))+1 from(Nat.sub_add_cancel (Nat.sub_pos_of_lt a)).symm,List.range'_succ] at h;cases h;exact⟨a,rfl,rfl⟩
inductive Rg (s:Shared)(a:List (Array UInt8×Tok))(b:List Nat)(st:Array (Array UInt8)×List (Value×Option Value))(c:Shared):Prop
 |mk (e:s=c) (k:Nat) (g:b=List.range' k (a.length-k)) (d:k<=a.length) (f:st.1.toList=(a.take k).map (·.1)) (h:∀p∈st.2,p.2=none/\p.1.onHeap=false)
theorem Rh {bs:List (Array UInt8×Tok)}{M:Model}{A:Around}{E:Value->Shared->Prop}{s:Shared}{l:List Nat}{body:Nat->Array (Array UInt8)×List (Value×Option Value)->Sem (ForInStep (Array (Array UInt8)×List (Value×Option Value)))}{Q:Array (Array UInt8)×List (Value×Option Value)->Shared->Prop}(j:l=List.range' 0 bs.length)
  (q:∀i (h:i<bs.length) a fm,(∀p∈fm,p.2=none/\p.1.onHeap=false)->∀P:ForInStep (Array (Array UInt8)×List (Value×Option Value))->Shared->Prop,P (.yield (a.push bs[i].1,fm++[(oy bs[i],none)])) s->wpAny M A (body i (a,fm)) P E s)
  (cj:∀a fm,a.toList=bs.map (·.1)->(∀p∈fm,p.2=none)->Q (a,fm) s):wpAny M A (forIn l (#[],[]) body) Q E s:=by
 rw[j];refine wpAny_forIn_list _ (Rg s bs) _ (λi r st n J=>?_) (λst n J=>?_) _ _ ⟨rfl,0,by rw[Nat.sub_zero],cI _,rfl,λp h=>by cases h⟩
 ·obtain⟨e,k,f,g,b,c⟩:=J
  obtain⟨d,e1,e2⟩:=Rd f;rw[←e,e1];refine q k d st.1 st.2 c _ ⟨rfl,k+1,e2,d,?_,λp m=>?_⟩
  ·rw[Array.toList_push]
   exact(br (·++_) b).trans ((by rw[List.take_add_one,rW d,cF];rfl))
  ·rcases hG.mp m with m|m
   ·exact c p m
   ·rw[eR.mp m];exact⟨rfl,rfl⟩
 ·obtain⟨e,k,f,g,b,c⟩:=J
  rw[(Nat.le_antisymm g (Nat.sub_eq_zero_iff_le.mp (by have:=br List.length f;rw[List.length_range'] at this;exact this.symm))),List.take_length] at b;rw[←e];exact cj st.1 st.2 b λp m=>(c p m).1
theorem Ri (b:Array UInt8)(t:Tok)(l:Addr)(a:List (Array UInt8×Tok))(D:a.length≠1)(N:Builtin.Bytes.tooLong ((a.map (·.1)).toArray.foldl (·+·.size) (b.size*(a.length-1)))=false)(oz:(Builtin.Bytes.joined b (a.map (·.1))).size<=sizeLine):
  Meets (Builtin.«bytes.join» ⟨[.bytes b t,.ref l],[]⟩) (λO R s=>s.heap.IsList l (a.map oy).toArray/\∀tk t',R (.ok (.ret (.bytes (Builtin.Bytes.joined b (a.map (·.1))) t'))) {s with toks:=tk}):=by
 refine .of_wp λH w A R s f=>?_;obtain⟨M,f⟩:=f;obtain⟨o,r,U,n,I⟩:=id M;have g:∀{Q:Option (Array Value)->Shared->Prop} {A:Around} {E:Value->Shared->Prop},Q (some (a.map oy).toArray) s->wpAny (model H w) A (seqItems? (.ref l)) Q E s:=λh=>by unfold seqItems?;refine ae (wpAny_load r ?_);rw[I];exact aU h
 show wpAny _ _ (Builtin.Bytes.joinM .bytes ⟨[.bytes b t,.ref l],[]⟩) _ _ s;unfold Builtin.Bytes.joinM;refine ae (cG (a:=(Value.bytes b t,Value.ref l)) rfl (ae ?_));show wpAny _ _ (Builtin.Bytes.joinItems (.ref l)) _ _ s;unfold Builtin.Bytes.joinItems;refine ae (wpAny_typeOf ⟨o,r,U⟩ (bm_if_true rfl (aU (ae (g ?_)))));have cj:∀(c:Array (Array UInt8)) (fm:List (Value×Option Value)),c.toList=a.map (·.1)->(∀p∈fm,p.2=none)->
   wpAny (model H w) A.in1 (do
    let C←Builtin.Bytes.payload (.bytes b t)
    if Builtin.Bytes.tooLong (c.foldl (·+·.size) (C.size*(c.size-1))) then unsupported (toString Builtin.Bytes.Kind.bytes.name++toString ".join"++toString ":memory")
    let k←Builtin.Bytes.Kind.bytes.new (Builtin.Bytes.joined C c.toList)
    holding (k::fm.flatMap λ(y,u)=>y::u.toList) point
    Builtin.Bytes.joinLetGo fm [k]
    ret k) (λcj q=>∃v,cj=Fin.done (Flow.ret v)/\R (Except.ok (Flow.ret v)) q) (λe q=>R (Except.error e) q) s:=by
  refine λc fm d j=>ae (cG (a:=b) rfl ?_);have z:c.size=a.length:=by rw[←lF,d,aW]
  have J:c.foldl (·+·.size) (b.size*(c.size-1))=(a.map (·.1)).toArray.foldl (·+·.size) (b.size*(a.length-1)):=by rw[z,←d];simp[z]
  rw[J,N,d];exact iq rfl (ae (wpAny_mkBytes (ae (dm (wpAny_point (ae (IC (aU ⟨_,rfl,f _ _⟩) fm _ j))))) oz))
 cases a with
 |nil=>refine ae ?_;rw[Std.Legacy.Range.forIn_eq_forIn_range'];exact aU (cj #[] [] rfl λp d=>nomatch d)
 |cons x a=>
  cases a with
  |nil=>exact absurd rfl D
  |cons y a=>refine ae ?_;rw[Std.Legacy.Range.forIn_eq_forIn_range'];refine Rh (bs:=x::y::a) (by simp[Std.Legacy.Range.size]) (λi L c fm j P G=>wpAny_bind (g (bm_if_false (c:=Builtin.Bytes.Kind.bytes==Builtin.Bytes.Kind.bytearray||fm.any λx=>x.1.onHeap) (Bool.or_eq_false_iff.mpr ⟨rfl,List.any_eq_false.mpr λp m=>by rw[(j p m).2];exact dz⟩) (ae (dm ?_))))) cj;rw[Rc _ i L];exact Rb (ae (g (iq (by simp) (wpAny_pure G))))
end BK
noncomputable abbrev cv (b:List UInt8):Bs:=b.map UInt8.toNat
theorem C6 {x y:UInt8}:(x.toNat=y.toNat)=(x=y):=by rw[eq_iff_iff];exact UInt8.toNat_inj
theorem ID:∀(p b:List UInt8),(cv p).isPrefixOf (cv b)=(if b.length<p.length then false else b.take p.length==p)
 |[],b=>by simp
 |x::p,[]=>by simp[List.isPrefixOf]
 |x::p,y::b=>by
  have a:=ID p b;simp only[cv,List.map_cons,List.isPrefixOf,List.length_cons,List.take_succ_cons,Nat.add_lt_add_iff_right] at a⊢;refine B a ?_;by_cases h:b.length<p.length
  ·simp[h]
  ·simp only[h,if_false,List.cons_beq_cons]
   congr 1;rw[mM];simp only[beq_iff_eq,C6];exact eq_comm
theorem Rj {b p:Array UInt8}(e1:cv b.toList=l)(e2:cv p.toList=q):(if((b.size:Int)-0<p.size) then false else b.extract 0 (0+p.size)==p)=q.isPrefixOf l:=by
 subst e1 e2;rw[ID];have a:((b.size:Int)-0<p.size)=(b.toList.length<p.toList.length):=by simp
 simp only[a];split
 ·rfl
 ·rw[mM]
  simp only[beq_iff_eq,Nat.zero_add,←Array.toList_inj,Array.toList_extract];simp[List.extract]
theorem Rk (p:Array UInt8)(x:UInt8):p.contains x=(cv p.toList).contains x.toNat:=by rw[mM];simp only[Array.contains_iff_mem,List.contains_iff_mem,List.mem_map,C6,exists_eq_right,Array.mem_toList_iff]
theorem C7 (p:Array UInt8):∀l:List UInt8,cv (l.dropWhile p.contains)=(cv l).dropWhile ((cv p.toList).contains ·)
 |[]=>rfl
 |x::l=>by
  simp only[List.dropWhile_cons,cv,List.map_cons];rw[Rk];split
  ·exact C7 p l
  ·rfl
theorem Rl {b p:Array UInt8}(e1:cv b.toList=l)(e2:cv p.toList=q):cv ((b.toList.dropWhile p.contains).reverse.dropWhile p.contains).reverse=qJ q l:=by subst e1 e2;unfold qJ;have a:∀x:List UInt8,cv x.reverse=(cv x).reverse:=λx=>List.map_reverse;rw[a,C7,a,C7]
theorem IE (b:Array UInt8)(c:UInt8)(i:Nat)(h:i<b.size):(b.extract i (i+1)==#[c])=(b[i]==c):=by
 have e:b.extract i (i+1)=#[b[i]]:=by
  apply Array.ext
  ·simp;lia
  ·intro j d a
   have:j=0:=by simp at a;assumption
   subst this;simp
 rw[e,mM];simp
theorem Rm (b:Array UInt8)(c:UInt8):Builtin.Bytes.occurrences b #[c] 0 b.size=(List.range b.size).filter λi=>b.toList[i]? ==some c:=by
 unfold Builtin.Bytes.occurrences;refine B (by simp:b.size+1-(0+(#[c]:Array UInt8).size)=b.size) ?_;have g:(List.range b.size).map (·+0)=List.range b.size:=by simp
 rw[g];have key:∀(n:Nat),n<=b.size->∃m,m<=n/\(List.range n).foldl (λ(d:List Nat×Nat) (i:Nat)=>if(decide (i≥d.2)&&b.extract i (i+(#[c]:Array UInt8).size)==#[c])=true then(i::d.1,i+(#[c]:Array UInt8).size) else d) ([],0)=
   (((List.range n).filter λi=>b.toList[i]? ==some c).reverse,m):=by
  intro n
  induction n with
  |zero=>exact λO=>aQ 0 (dE _) rfl
  |succ n j=>
   refine λk=>ai (j (ip bW)) λm g e=>?_;rw[List.range_succ,List.foldl_append,e,List.filter_append];simp only[List.foldl_cons,List.foldl_nil];have h:n<b.size:=bW;have e1:(b.extract n (n+(#[c]:Array UInt8).size)==#[c])=(b.toList[n]? ==some c):=by refine((B (IE b c n h) ?_):(b.extract n (n+1)==#[c])=_);simp[h]
   rw[e1,(f3 g),uW];by_cases a:(b.toList[n]? ==some c)=true
   ·refine B (aG a) (aQ (n+1) (dE _) ?_)
    have f:[n].filter (λi=>b.toList[i]? ==some c)=[n]:=by refine B kL (B (aG a) ?_);rfl
    rw[f,List.reverse_append];rfl
   ·refine B (aH a) (aQ m (lH bW) ?_)
    have f:[n].filter (λi=>b.toList[i]? ==some c)=[]:=by refine B kL (B (aH a) ?_);rfl
    rw[f,eB]
 refine ai (key b.size (dE _)) λm O e=>((B e ?_):((List.range b.size).foldl _ ([],0)).1.reverse=_);simp
noncomputable def hZ (c:UInt8):List UInt8->List UInt8->List (List UInt8)
 |cur,[]=>[cur]
 |cur,x::r=>if x=c then cur::hZ c [] r else hZ c (cur++[x]) r
theorem Rn (c:UInt8)(l:List UInt8):∀a,∃y s,c5 c.toNat (cv l)=y::s/\(hZ c a l).map cv=(cv a++y)::s:=by
 induction l with
 |nil=>exact λa=>gE [] [] rfl (by rw[eB];rfl)
 |cons x r b=>
  intro a;have e:c5 c.toNat (cv (x::r))=if x.toNat=c.toNat then[]::c5 c.toNat (cv r) else match c5 c.toNat (cv r) with|[]=>[[x.toNat]]|y::s=>(x.toNat::y)::s:=rfl
  have d:hZ c a (x::r)=if x=c then a::hZ c [] r else hZ c (a++[x]) r:=rfl
  refine B e (B d ?_);by_cases h:x=c
  ·exact fj (b []) λy s e1 e2=>B (aG h) (B (aG (br UInt8.toNat h)) (B c3 (B e2 (B e1 (gE _ _ rfl (by rw[eB];rfl))))))
  ·exact fj (b (a++[x])) λy s e1 e2=>B (aH h) (B (aH λq=>h (UInt8.toNat_inj.mp q)) (B e2 (B e1 (gE _ _ rfl (by unfold cv;rw[cF,e6];rfl)))))
theorem Ro (c:UInt8)(l:List UInt8):(hZ c [] l).map cv=c5 c.toNat (cv l):=by refine fj (Rn c l []) λy s e1 e2=>B e2 (B e1 ?_);rfl
theorem C8 (b:Array UInt8)(c:UInt8):(Builtin.Bytes.between b 1 ((List.range b.size).filter λi=>b.toList[i]? ==some c)).map Array.toList=hZ c [] b.toList:=by
 have key:∀(k:Nat) (pre post:List UInt8) (e:Array (Array UInt8)) (a:Nat),post.length=k->b.toList=pre++post->a<=pre.length->
   (let r:=((List.range' pre.length k).filter λi=>b.toList[i]? ==some c).foldl (λ(x:Array (Array UInt8)×Nat) p=>(x.1.push (b.extract x.2 p),p+1)) (e,a)
    (r.1.push (b.extract r.2 b.size)).toList.map Array.toList)=e.toList.map Array.toList++hZ c (pre.drop a) post:=by
  intro k
  induction k with
  |zero=>
   intro pre post e a f d j;have:post=[]:=uH.mp f;subst this;simp only[List.range'_zero,List.filter_nil,List.foldl_nil,Array.toList_push,List.map_append,List.map_cons,List.map_nil,hZ];congr 2;rw[Array.toList_extract,d,eB];have:b.size=pre.length:=by refine az lF (B d ?_);simp
   exact B this (B List.extract_eq_drop_take (BC (by simp)))
  |succ k n=>
   intro pre post e a f d j;cases post with
   |nil=>injection f
   |cons x post=>
    have q:b.toList[pre.length]? =some x:=by refine B d ?_;simp
    have l:b.toList=(pre++[x])++post:=by refine B d ?_;simp
    have m:post.length=k:=by simpa using f
    have g:(pre++[x]).length=pre.length+1:=by simp
    refine B List.range'_succ (B kL (B q ?_));unfold hZ;by_cases h:x=c
    ·refine B h (B (aG (by simp)) (B (if_pos rfl) (B List.foldl_cons ?_)))
     have:=n (pre++[x]) post (e.push (b.extract a pre.length)) (pre.length+1) m l (B g (dE _));rw[g] at this;refine this.trans ?_;rw[Array.toList_push,cF,e6];congr 1;rw[(List.drop_of_length_le (by simp):(pre++[x]).drop (pre.length+1)=[])];simp only[List.map_cons,List.map_nil,List.cons_append,List.nil_append];congr 1;exact B Array.toList_extract (B d (B List.extract_eq_drop_take (B (List.drop_append_of_le_length j) (B (List.take_append_of_le_length (by simp)) (List.take_of_length_le (by simp))))))
    ·refine B (aH (by simpa using h)) (B (if_neg h) ?_)
     have:=n (pre++[x]) post e a m l (B g (lH (by assumption)));rw[g] at this;exact this.trans (B (List.drop_append_of_le_length j) rfl)
 have:=key b.size [] b.toList #[] 0 (by simp) rfl (Nat.le_refl _);simpa[Builtin.Bytes.between,List.range_eq_range'] using this
theorem IF (c:UInt8):∀(post pre:List UInt8),(List.range' pre.length post.length).find? (λi=>(pre++post)[i]? ==some c)=(post.findIdx? (·==c)).map (·+pre.length)
 |[],pre=>by simp
 |x::post,pre=>by
  have a:=IF c post (pre++[x]);rw[(by simp:(pre++[x]).length=pre.length+1)] at a;rw[(by simp:pre++[x]++post=pre++x::post)] at a;refine B e8 (B List.range'_succ (B (mL) (B (by simp:(pre++x::post)[pre.length]? =some x) (B (List.findIdx?_cons) ?_))));by_cases h:x=c
  ·refine B h ?_;simp
  ·refine B (by simpa using h:(some x==some c)=false) (B (by simpa using h:(x==c)=false) (B a ?_))
   cases post.findIdx? (·==c) with
   |none=>rfl
   |some i=>simp;lia
theorem IG (c:UInt8):∀l:List UInt8,(cv l).findIdx? (·==c.toNat)=l.findIdx? (·==c)
 |[]=>rfl
 |x::l=>by
  simp only[cv,List.map_cons,List.findIdx?_cons];have:(x.toNat==c.toNat)=(x==c):=by rw[mM];simp[C6]
  exact B this (az (IG c l) rfl)
theorem Rp (b:Array UInt8)(c:UInt8):(match Builtin.Bytes.find? b #[c] 0 b.size with|some i=>(i:Int)|none=> -1)=sR c.toNat (cv b.toList):=by
 unfold sR;rw[IG];have e:Builtin.Bytes.find? b #[c] 0 b.size=b.toList.findIdx? (·==c):=by
  unfold Builtin.Bytes.find?;refine B (by simp:b.size+1-(0+(#[c]:Array UInt8).size)=b.size) (B (by simp:(List.range b.size).map (·+0)=List.range b.size) ?_);have:=IF c b.toList [];simp only[List.length_nil,Array.length_toList,List.nil_append,Nat.add_zero] at this;rw[←List.range_eq_range'] at this;have d:(List.range b.size).find? (λi=>b.extract i (i+(#[c]:Array UInt8).size)==#[c])=(List.range b.size).find? (λi=>b.toList[i]? ==some c):=by
   have fu:∀l:List Nat,(∀i∈l,i<b.size)->l.find? (λi=>b.extract i (i+(#[c]:Array UInt8).size)==#[c])=l.find? (λi=>b.toList[i]? ==some c):=by
    intro l
    induction l with
    |nil=>intro O;rfl
    |cons i l g=>
     intro h;have a:=h i (.head _);have e1:(b.extract i (i+(#[c]:Array UInt8).size)==#[c])=(b.toList[i]? ==some c):=by refine((B (IE b c i a) ?_):(b.extract i (i+1)==#[c])=_);simp[a]
     exact B (mL) (B (mL) (B e1 (B (g λj f=>h j (.tail _ f)) rfl)))
   exact fu _ λi a=>ik.mp a
  refine B d (B this ?_);cases b.toList.findIdx? (·==c)<;>simp
 rw[e]
 all_goals (cases b.toList.findIdx? (·==c)<;>rfl)
theorem IH (iB:Array UInt8):∀(b:List (Array UInt8)) (k:Nat) (a:Array UInt8),0<k->cv ((b.zipIdx k).foldl (λa (x:Array UInt8×Nat)=>(if x.2>0 then a++iB else a)++x.1) a).toList=cv a.toList++(b.flatMap λp=>cv iB.toList++cv p.toList)
 |[],_,_,_=>by simp
 |p::b,k,a,c=>by refine B List.zipIdx_cons (B uT (B (IH iB b (k+1) _ (Nat.succ_pos k)) ?_));simp[c,cv]
theorem wj (s:Bs):∀(x:Bs) (r:List Bs),gI s (x::r)=x++r.flatMap λp=>s++p
 |x,[]=>(eB x).symm
 |x,y::r=>by refine(?_:x++s++gI s (y::r)=_);rw[wj s y r,r9,e6,e6]
theorem Rq (iB:Array UInt8)(a:List (Array UInt8)):cv (Builtin.Bytes.joined iB a).toList=gI (cv iB.toList) (a.map λp=>cv p.toList):=by
 unfold Builtin.Bytes.joined;cases a with
 |nil=>rfl
 |cons p a=>refine B List.zipIdx_cons (B uT ?_);have:=IH iB a 1 ((if 0>0 then #[]++iB else #[])++p) dc;refine this.trans ?_;rw[c3,wj,List.flatMap_map];simp
namespace BK
theorem Rr (b:Array UInt8)(t:Tok)(l:Addr)(x:Array UInt8×Tok):
  Meets (Builtin.«bytes.join» ⟨[.bytes b t,.ref l],[]⟩) (λO R s=>s.heap.IsList l #[oy x]/\R (.ok (.ret (oy x))) s):=by
 refine .of_wp λg w A R s a=>?_;obtain⟨f,a⟩:=a;obtain⟨o,c,d,n,e⟩:=id f;show wpAny _ _ (Builtin.Bytes.joinM .bytes ⟨[.bytes b t,.ref l],[]⟩) _ _ s;unfold Builtin.Bytes.joinM;refine ae (cG (a:=(Value.bytes b t,Value.ref l)) rfl (ae ?_));show wpAny _ _ (Builtin.Bytes.joinItems (.ref l)) _ _ s;unfold Builtin.Bytes.joinItems;refine ae (wpAny_typeOf ⟨o,c,d⟩ (bm_if_true rfl (aU (ae ?_))));unfold seqItems?;refine ae (wpAny_load c ?_);rw[e];exact aU (ae (wpAny_typeOf (cY s x.1 x.2) (bm_if_true rfl (ae (mO (aU ⟨_,rfl,a⟩))))))
theorem II:∀(a:List (Array UInt8)) (k:Nat),a.foldl (·+·.size) k=k+(a.map (·.size)).sum
 |[],k=>by simp
 |p::a,k=>by rw[uT,II a];simp;exact mN ..
theorem Rt (c:Array UInt8)(a:List (Array UInt8)):a.toArray.foldl (·+·.size) (c.size*(a.length-1))=(gI (cv c.toList) (a.map λp=>cv p.toList)).length:=by
 rw[List.foldl_toArray,II];cases a with
 |nil=>simp[gI]
 |cons p a=>
  show _=(gI (cv c.toList) (cv p.toList::a.map λp=>cv p.toList)).length;rw[wj];simp only[List.length_cons,List.map_cons,List.sum_cons,List.length_append,cv,List.length_map,Array.length_toList,List.flatMap_map,Nat.add_sub_cancel];have:∀b:List (Array UInt8),(b.flatMap λq=>c.toList.map UInt8.toNat++q.toList.map UInt8.toNat).length=c.size*b.length+(b.map (·.size)).sum:=by
   intro b
   induction b with
   |nil=>simp
   |cons q b d=>rw[r9,bR,d];simp[Nat.mul_add];lia
  rw[this];lia
theorem Ru (b p:Array UInt8)(t u:Tok)(c:b.size<p.size):Gives (Builtin.«bytes.find» ⟨[.bytes b t,.bytes p u],[]⟩) (.int (-1)):=by refine .of_wp λM A E s Q a=>?_;unfold Builtin.«bytes.find» Builtin.Bytes.searchM Builtin.Bytes.searchArgs;refine ae (ae (cG (a:=(Value.bytes b t,[Value.bytes p u])) rfl ?_));dsimp only;refine ae (cG (a:=none) rfl (ae (cG (a:=none) rfl (ae (cG qC (ae (aU (ae (cG (a:=b) rfl ?_)))))))));rw[C5];dsimp only;rw[aG (by exact i7.mpr bW)];exact aU (ae (mO (ae (wpAny_mkInt (aU ⟨_,rfl,a⟩)))))
end BK
theorem IJ:∀(a:List Str) (k:Nat),aJ h (strsFrom k a) (a.map λx=>.str x.cps.toList)
 |[],_=>.nil
 |x::a,k=>.cons (.str _ _ rfl) (IJ a (k+1))
theorem IK:∀(a:List (Array UInt8)) (k:Nat),aJ h (BK.tf k a) (a.map λx=>.bytes (cv x.toList))
 |[],_=>.nil
 |x::a,k=>.cons (.bytes _ _ rfl) (IK a (k+1))
theorem IL (e:cv p.toList=[c]):∃x:UInt8,p=#[x]/\x.toNat=c:=by
 cases p with
 |mk l=>
  cases l with
  |nil=>injection e
  |cons x l=>
   cases l with
   |nil=>simp[cv] at e;exact aQ x rfl e
   |cons=>simp[cv] at e
section
variable {s:Shared}{E:Value->Shared->Prop}(I:bk d b Y g s.heap)
include I
theorem Rv {id:String}(i:Kd.str.pF m=some id)(n:ag s.heap a (.str l))(q:aJ s.heap j k)(e:CF m l k=some r)(h:Q r Y):
  wpAny (model d.prog d.w) A (call (.builtin id) (a::j)) (bN d b Y g s Q) E s:=by
 cases n with|str X t c=>
 refine kY q e λv p w e=>vZ w e λx u p f e=>?_;cases m with
 |startswith=>have e:=bo e;subst e;cases i;rw[jB c,jB f] at h;exact SC.startswith (ar.here I (.bool _) h)
 |endswith=>have e:=bo e;subst e;cases i;rw[jB c,jB f] at h;exact SC.endswith (ar.here I (.bool _) h)
 |find=>have e:=bo e;subst e;cases i;rw[jB c,jB f] at h;exact SC.find (ar.now I (.int _ _) h _)
 |_=>injection e
omit I in
omit I in
theorem Rw {X a:Array UInt8}(c:((X.toList.dropWhile a.contains).reverse.dropWhile a.contains).reverse.length=X.toList.length):((X.toList.dropWhile a.contains).reverse.dropWhile a.contains).reverse=X.toList:=by rw[o4] at c;have e:((X.toList.dropWhile a.contains).reverse.dropWhile a.contains).length<=(X.toList.dropWhile a.contains).reverse.length:=(rY _).length_le;rw[o4] at e;have e1:X.toList.dropWhile a.contains=X.toList:=(rY _).eq_of_length (Nat.le_antisymm ((rY _).length_le) (c▸e));rw[((rY _).eq_of_length (by rw[o4,c,e1])),List.reverse_reverse,e1]
theorem Rx (m:X.toList.map UInt8.toNat=l)(n:f.toList.map UInt8.toNat=p)(e:GX l p=some r)(h:Q r Y):
  wpAny (model d.prog d.w) A (call (.builtin "bytes.find") [.bytes X t,.bytes f u]) (bN d b Y g s Q) E s:=by
 cases p with
 |nil=>injection e
 |cons c q=>cases q with
  |cons O O=>injection e
  |nil=>
   have e:=bo e;subst e;refine ai (IL n) λc i j=>?_;subst i;subst j;have h:=m▸h;by_cases a:X.size<(#[c]:Array UInt8).size
   ·have k:=Array.size_eq_zero_iff.mp (Nat.lt_one_iff.mp a);subst k
    exact gq BK.C3 (cY _ _ _) BK.Iv (BK.Iw _ _) (BK.Ru _ _ t u a) (ar.now I (.int _ _) h _)
   ·have:=Rp X c
    unfold cv at this;have h:=this▸h;exact gq BK.C3 (cY _ _ _) BK.Iv (BK.Iw _ _) (BK.Q9 _ _ t u (Nat.not_lt.mp a)) (ar.now I (.int _ _) h _)
theorem Ry {X a:Array UInt8}(f:X.toList.map UInt8.toNat=l)(j:a.toList.map UInt8.toNat=p)(e:(if fits l=true then some (PV.bytes (qJ p l)) else none)=some r)(h:Q r Y):
  wpAny (model d.prog d.w) A (call (.builtin "bytes.strip") [.bytes X t,.bytes a u]) (bN d b Y g s Q) E s:=by
 refine gx e λm e=>?_;have e:=bo e;subst e;have i:X.size<=sizeLine:=by refine B (qR f) ?_;exact aw (cf m) dc
 refine gq BK.Iy (cY _ _ _) BK.Q4 (BK.Q5 _ _) (BK.Q8 X a t u i) ?_;have c:=Rl f j;split
 ·rename_i k
  rw[Rw (by simpa using k)] at c;exact ar.here I (.bytes _ _ c) h
 ·exact⟨by refine B ei ?_;exact aw ((by exact B o4 (az lF (aw (rY _).length_le (by rw[o4];exact(rY _).length_le))))) i,ar.now I (.bytes _ _ (by simpa using c)) h _⟩
theorem Rz {id:String}(c:Kd.bytes.pF m=some id)(q:ag s.heap a (.bytes l))(w:aJ s.heap k n)(e:CG m l n=some r)(h:Q r Y):
  wpAny (model d.prog d.w) A (call (.builtin id) (a::k)) (bN d b Y g s Q) E s:=by
 cases q with|bytes X t f=>
 refine kY w e λv p x e=>Hk x e λj u p i e=>?_;cases m with
 |startswith=>have e:=bo e;subst e;cases c;rw[←Rj f i] at h;exact gq FB.slot_bytes_startswith (cY _ _ _) FB.entry_bytes_startswith (FB.args_bytes_startswith_2 _ _) (BK.Q7 X j t u) (ar.here I (.bool _) h)
 |find=>have c:=bo c;subst c;exact Rx I f i e h
 |mV=>have c:=bo c;subst c;exact Ry I f i e h
 |_=>injection e
end
section
variable (ok:c7 g){s:Shared}{E:Value->Shared->Prop}(I:bk g f Y m s.heap)
include I
theorem RA (x:ag s.heap a (.str l))(y:ag s.heap b (.str p))(v:p≠[])(w:l.length<=aI)(d:(eF l p).length<=aI)(h:bw Y (.list ((eF l p).map .str)) Q):
  wpAny (model g.prog g.w) A (call (.builtin "str.split") [a,b]) (bN g f Y m s Q) E s:=by
 cases x with|str X t i=>
 cases y with|str c u n=>
 have q:(c.length==0)=false:=by refine B (ox n) ?_;cases p with
  |nil=>exact absurd rfl v
  |cons=>rfl
 have a8:eF l p=[l]->bN g f Y m s Q (.ref s.heap.objs.size) {s with heap:=s.heap.push {cls:=.type "list",data:=.seq #[.str X t]}}:=λe=>by rw[e] at h;exact ar.list (vs:=[.str X t]) (ps:=[.str l]) I (.cons (.str _ _ i) .nil) h s.toks
 unfold eF at h d a8;rw[jB i,jB n] at h d a8;unfold Txt.split at h d a8;cases j:(decide (X.length<c.length)||decide (Builtin.Str.strKind X<Builtin.Str.strKind c))
 ·rw[j] at h d a8
  cases k:(Builtin.Str.occurrences X c 0 X.length (X.length+1)).isEmpty
  ·rw[k] at h d
   simp only[Bool.false_eq_true,if_false] at h d;have r:(Builtin.Str.partsBetween X (Builtin.Str.occurrences X c 0 X.length (X.length+1)) c.length).length<=sizeLine:=by rw[aW] at d;exact aw d dc
   refine n8 F.slot_str_split (jS _ _ _) F.entry_str_split (F.args_str_split_2 _ _) (meets_str_split_sep X c t u j q k (by exact B (ox i) (aw w dc)) r) ?_;rw[cV] at h;exact ar.list I (IJ _ _) h _
  ·rw[k] at a8
   exact n8 F.slot_str_split (jS _ _ _) F.entry_str_split (F.args_str_split_2 _ _) (meets_str_split_not_found X c t u j q k) (a8 (by simp[i]))
 ·rw[j] at a8
  exact n8 F.slot_str_split (jS _ _ _) F.entry_str_split (F.args_str_split_2 _ _) (meets_str_split_cannot_occur X c t u j) (a8 (by simp[i]))
theorem RC (U:ag s.heap a (.bytes l))(J:ag s.heap b (.bytes [c]))(G:l.length<=aI)(h:bw Y (.list ((c5 c l).map .bytes)) Q):
  wpAny (model g.prog g.w) A (call (.builtin "bytes.split") [a,b]) (bN g f Y m s Q) E s:=by
 cases U with|bytes X t k=>
 cases J with|bytes L u z=>
 refine ai (IL z) λd w y=>B w ?_;subst y;have N:X.size<=16000000:=by exact B (qR k) G
 have p:BK.l6 X #[d]=(List.range X.size).filter λi=>X.toList[i]? ==some d:=by unfold BK.l6;rw[Rm,BC];exact aw (mJ _ _) (by exact B kJ (gn _ _))
 have v:(Builtin.Bytes.between X (#[d]:Array UInt8).size (BK.l6 X #[d])).map (λx=>cv x.toList)=c5 d.toNat l:=by rw[p,←k,←Ro,←C8,cV];rfl
 have M:(Builtin.Bytes.between X (#[d]:Array UInt8).size (BK.l6 X #[d])).length<=X.size+1:=by
  have n:∀(e r:List UInt8),(hZ d e r).length<=r.length+1:=by
   intro e r
   induction r generalizing e with
   |nil=>simp[hZ]
   |cons x r j=>
    unfold hZ;split
    ·have:=j [];simp only[List.length_cons];exact fZ (by assumption)
    ·have:=j (e++[x]);simp only[List.length_cons];exact lH (by assumption)
  have:=br List.length (C8 X d);rw[aW] at this;refine B p (aw (ju this) ?_);simpa using n [] X.toList
 have C:∀q∈Builtin.Bytes.between X (#[d]:Array UInt8).size (BK.l6 X #[d]),q.size<=sizeLine:=by
  have n:∀(r e:List UInt8),∀q∈hZ d e r,q.length<=e.length+r.length:=by
   intro r
   induction r with
   |nil=>intro e q hq;simp only[hZ,List.mem_singleton] at hq;subst hq;simp
   |cons x r j=>
    intro e q hq;unfold hZ at hq;split at hq
    ·rcases d4.mp hq with rfl|hq
     ·simp
     ·have:=j [] q hq;simp only[List.length_nil,List.length_cons] at this⊢;lia
    ·have:=j (e++[x]) q hq;simp only[List.length_append,List.length_cons,List.length_nil] at this⊢;lia
  intro q hq;rw[p] at hq;have D:q.toList∈hZ d [] X.toList:=by rw[←C8];exact List.mem_map_of_mem hq
  have:=n X.toList [] _ D;rw[lF] at this;simp only[List.length_nil,Array.length_toList] at this;refine B jR ?_;lia
 refine n8 BK.Iu (cY _ _ _) BK.Q0 (BK.Q1 _ _) (BK.Ra X #[d] t u rfl C (by refine B jR ?_;lia)) ?_;split
 ·rename_i H
  have:c5 d.toNat l=[l]:=by refine az v (B (uO.mp H) ?_);simp[Builtin.Bytes.between,←k,cv]
  rw[this] at h;exact ar.list (vs:=[.bytes X t]) (ps:=[.bytes l]) I (.cons (.bytes _ _ k) .nil) h s.toks
 ·refine ar.list I (IK _ _) ?_ _
  rw[←v,cV] at h;exact h
theorem RD (y:ag s.heap a (.str q))(e:Y x=some (.list z))(u:kR z=some c)(n:JoinOk (bp q) (c.map bp)=true)(h:Q (.str (sU q c)) Y):
  wpAny (model g.prog g.w) A (call (.builtin "str.join") [a,.ref x]) (bN g f Y m s Q) E s:=by
 cases y with|str X t l=>
 refine ai (I.mt.aa x _ e) λi j p=>?_;replace j:=eL.eG j;rw[CM u] at p;refine ai ((p.qQ (C:=λi c=>∃b:List (Str×Tok),i=strValues b/\b.map (·.1)=c.map bp) (aQ [] rfl rfl) λ{v a i c} w O d=>v9 (C:=λv=>∃b:List (Str×Tok),v::i=strValues b/\b.map (·.1)=(a::c).map bp) w λx t e=>by exact ai d λb e1 e2=>aQ ((x,t)::b) (by refine B e1 ?_;rfl) (by exact B c3 (B e2 (B c3 (B (jB e) rfl)))))) λb r e2=>?_;subst r
 rw[jB l] at n;refine SC.join j e2 n λH k=>ar.now I (.str _ _ ?_) h k;unfold sU;exact B (jB l) rfl
theorem RE (L:ag s.heap a (.bytes j))(e:Y x=some (.list N))(D:mW N=some i)(w:(gI j i).length<=aI)(h:Q (.bytes (gI j i)) Y):
  wpAny (model g.prog g.w) A (call (.builtin "bytes.join") [a,.ref x]) (bN g f Y m s Q) E s:=by
 cases L with|bytes X t G=>
 refine ai (I.mt.aa x _ e) λl k y=>?_;replace k:=eL.eG k;rw[CN D] at y;refine ai ((y.qQ (C:=λl i=>∃c:List (Array UInt8×Tok),l=c.map BK.oy/\c.map (λp=>cv p.1.toList)=i) (aQ [] rfl rfl) λ{v a l i} J O d=>zo (C:=λv=>∃c:List (Array UInt8×Tok),v::l=c.map BK.oy/\c.map (λp=>cv p.1.toList)=a::i) J λx t e=>by exact ai d λc e1 e2=>aQ ((x,t)::c) (by refine B e1 ?_;rfl) (by exact B c3 (B e2 (br (·::i) e))))) λc C e2=>?_;subst C
 by_cases u:c.length=1
 ·refine Ke (List.length_eq_one_iff.mp u) λb z=>?_;subst z
  have H:i=[cv b.1.toList]:=by refine az e2 ?_;rfl
  rw[H] at h;exact n8 BK.C4 (cY _ _ _) BK.Iz (BK.IA _ _) (BK.Rr X t x b) ⟨k,ar.here I (.bytes _ _ rfl) h⟩
 ·have q:=BK.Rt X (c.map (·.1))
  rw[aW,cV] at q;have r:gI (cv X.toList) (c.map ((λp:Array UInt8=>cv p.toList)∘λx=>x.1))=gI j i:=by refine az e2 (az G ?_);rfl
  rw[r] at q;have n:=Rq X (c.map (·.1));rw[cV,r] at n;have U:(Builtin.Bytes.joined X (c.map (·.1))).size=(gI j i).length:=by refine az n ?_;simp[cv]
  refine n8 BK.C4 (cY _ _ _) BK.Iz (BK.IA _ _) (BK.Ri X t x c u (B q ?_) (B U (aw w dc))) ⟨k,λM t'=>ar.now I (.bytes _ _ n) h M⟩;unfold Builtin.Bytes.tooLong;rw[decide_eq_false_iff_not,jR];have:(gI j i).length<=16000000:=w;lia
end
theorem IM (e:Y x=some (.list a)):hR Y (.ref x)=some .list:=by show y8 (Y x)=_;refine B e ?_;rfl
theorem IP (e:Y x=some (.dict a b)):hR Y (.ref x)=some .dict:=by show y8 (Y x)=_;refine B e ?_;rfl
section
variable (ok:c7 i){s:Shared}{E:Value->Shared->Prop}(I:bk i b Y n s.heap)
include ok I
omit ok in
theorem RF {id:String}(a:Kd.list.pF m=some id)(e:Y x=some (.list k))(c:aJ s.heap f j)(h:zb m x k j Q Y):wpAny (model i.prog i.w) A (call (.builtin id) (.ref x::f)) (bN i b Y n s Q) E s:=by
 cases m with
 |append=>have a:=bo a;exact az a (kX c h λv p d h=>QQ I e d h.1 h.2)
 |pz=>have a:=bo a;exact az a (kX c h λv p d h=>jd d h λy h=>qK h λl e2 h=>QR I e e2 h.2.1 h.2.2)
 |fJ=>have a:=bo a;exact az a (Hn c h λh=>ff h λy g h=>QS I e g h.1 h.2)
 |_=>exact False.elim h
omit ok in
theorem RG (e:Y x=some (.dict p c))(m:ag s.heap l k)(h:G6 x c k Q Y)(j:a=[]∨∃d,a=[d]):wpAny (model i.prog i.w) A (call (.builtin "dict.pop") (.ref x::l::a)) (bN i b Y n s Q) E s:=
 ff h.2.2 λy f g=>Ir I e m h.1 h.2.1 f g j
theorem RH (e:Y x=some (.dict w a))(u:ag s.heap p k)(r:ag s.heap g d)(h:G7 x a k d Q Y):wpAny (model i.prog i.w) A (call (.builtin "dict.pop") [.ref x,p,g]) (bN i b Y n s Q) E s:=by
 refine tc r h λh=>?_
 induction u using ag.casesOn with
 |@str X t l c=>
  obtain⟨f,m,h⟩:dr (.str l) a=true/\a.length<=aI/\(match el a (.str l) with|some v=>∀j,Q v (Y.set x (.dict j (pB a (.str l))))|none=>Q .none Y):=h;cases q:el a (.str l) with
  |some y=>rw[q] at h;exact Ir I e (.str X t c) (f:(true&&dr (.str l) a)=true) m q h (.inr ⟨_,rfl⟩)
  |none=>rw[q] at h;exact QY ok I e (.str X t c) f q h
 |_=>exact False.elim h
omit ok I in
theorem IQ {C:List Value->Prop}(rs:aJ a m l)(h:CH l f g)(k:∀v p,ag a v p->f p->C [v])(j:∀v p u q,ag a v p->ag a u q->g p q->C [v,u]):C m:=by
 induction rs using aJ.casesOn with
 |nil=>exact False.elim h
 |cons d c=>induction c using aJ.casesOn with
  |nil=>exact k _ _ d h
  |cons e c=>exact Hn (C:=λr=>C (_::_::r)) c h λh=>j _ _ _ _ d e h
theorem RI {id:String}{d:List Value}(a:Kd.dict.pF m=some id)(e:Y x=some (.dict l j))(g:aJ s.heap d k)(h:CI m x j k Q Y):wpAny (model i.prog i.w) A (call (.builtin id) (.ref x::d)) (bN i b Y n s Q) E s:=by
 cases m with
 |get=>have a:=bo a;exact az a (IQ (C:=λd=>wpAny (model i.prog i.w) A (call (.builtin "dict.get") (.ref x::d)) (bN i b Y n s Q) E s) g h (λv p c h=>QV ok I e c h.1 h.2) λv p u q c f h=>QW ok I e c h.1 f h.2)
 |fJ=>have a:=bo a;exact az a (IQ (C:=λd=>wpAny (model i.prog i.w) A (call (.builtin "dict.pop") (.ref x::d)) (bN i b Y n s Q) E s) g h (λv p c h=>RG I e c h (.inl rfl)) λv p u q c f h=>RH ok I e c f h)
 |oh=>have a:=bo a;exact az a (CO g h λv p u q c f h=>QX ok I e c h.1 h.2.1 f h.2.2)
 |_=>exact False.elim h
omit ok in
theorem RJ {id:String}(c:Kd.str.pF m=some id)(d:ag s.heap a (.str l))(f:aJ s.heap j k)(h:G9 m l k Q Y):wpAny (model i.prog i.w) A (call (.builtin id) (a::j)) (bN i b Y n s Q) E s:=by
 have fu:bQ (CF m l k) (λr=>Q r Y)->wpAny (model i.prog i.w) A (call (.builtin id) (a::j)) (bN i b Y n s Q) E s:=λh=>ff h λr e h=>Rv I c d f e h;cases m with
 |split=>
  have c:=bo c;refine az c (kX f h λv p g h=>?_);cases p with
  |str p=>exact RA I d g h.1 h.2.1 h.2.2.1 h.2.2.2
  |_=>exact False.elim h
 |join=>have c:=bo c;exact az c (kX f h λv p g h=>jd g h λx h=>qK h λu e h=>ff h λt q h=>RD I d e q h.1 h.2)
 |_=>exact fu h
omit ok in
theorem RK {id:String}(d:Kd.bytes.pF m=some id)(f:ag s.heap a (.bytes l))(g:aJ s.heap k q)(h:Ha m l q Q Y):wpAny (model i.prog i.w) A (call (.builtin id) (a::k)) (bN i b Y n s Q) E s:=by
 have fu:bQ (CG m l q) (λr=>Q r Y)->wpAny (model i.prog i.w) A (call (.builtin id) (a::k)) (bN i b Y n s Q) E s:=λh=>ff h λr e h=>Rz I d f g e h;cases m with
 |split=>
  have d:=bo d;refine az d (kX g h λv p j h=>?_);cases p with
  |bytes p=>
   cases p with
   |nil=>exact False.elim h
   |cons c r=>cases r with
    |cons O O=>exact False.elim h
    |nil=>exact RC I f j h.1 h.2.2
  |_=>exact False.elim h
 |join=>have d:=bo d;exact az d (kX g h λv p j h=>jd j h λx h=>qK h λw e h=>ff h λu t h=>RE I f e t h.1 h.2)
 |_=>exact fu h
theorem RL {id:String}(c:hR Y v=some k)(d:k.ou m=some id)(p:ag s.heap a v)(f:aJ s.heap l j)(h:hS m v j Q Y):
  wpAny (model i.prog i.w) A (call (.builtin id) (a::l)) (bN i b Y n s Q) E s:=by
 induction p using ag.casesOn with
 |str X t g=>have c:=bo c;subst c;exact RJ I d (.str X t g) f h
 |bytes X t g=>have c:=bo c;subst c;exact RK I d (.bytes X t g) f h
 |ref x=>
  have h:zc m.kn x (Y x) j Q Y:=h;cases e:Y x with
  |none=>have h:=e▸h;exact False.elim h
  |some o=>
   have h:=e▸h;cases o with
   |list u=>have c:=(IM e)▸c;have c:=bo c;subst c;exact RF I d e f h
   |dict q r=>have c:=(IP e)▸c;have c:=bo c;subst c;exact RI ok I d e f h
   |_=>exact False.elim h
 |_=>exact False.elim h
end
section
variable (ok:c7 d){rs:List (Str×Nat)}
theorem qT (a:eN A b c q):A.units+10<cLine:=Nat.lt_of_lt_of_le (Nat.add_lt_add_left (by decide:10<200) _) (Nat.le_trans (Nat.add_le_add_right (Nat.le_add_right _ _) 200) a.units)
section
theorem ar.first (h:wpAny M A t (ar d R c Y f s P) (cD d c Y f s X) s)(k:∀v p b i a e,Go d c Y f s.heap b i a->R a v p->P p b->l v (aa s a e)):wpAny M A t l (cD d c Y f s X) s:=by refine bM h (λv m x=>?_) λO O x=>x;obtain⟨p,b,i,a,e,j,g,r,z⟩:=x;refine B j ?_;exact k v p b i a e g r z
theorem ar.next (g:Go d b Y m s.heap l j c)(h:wpAny M A t (ar d R b l j (aa s c tk₁) P) (cD d b l j (aa s c tk₁) X) (aa s c tk₁))
  (k:∀v p e f a i,Go d b l j c e f a->Go d b Y m s.heap e f a->R a v p->P p e->q v (aa s a i)):wpAny M A t q (cD d b Y m s X) (aa s c tk₁):=by
 refine bM h (λv u x=>?_) λO O x=>x.b9 g;obtain⟨p,e,f,a,i,n,g',r,z⟩:=x;refine B n ?_;exact k v p e f a i g' (g.trans g') r z
theorem ar.cj (g:Go d a Y c s.heap f e b)(h:wpAny M A t (ar d R a f e (aa s b tk₁) P) (cD d a f e (aa s b tk₁) X) (aa s b tk₁)):wpAny M A t (ar d R a Y c s P) (cD d a Y c s X) (aa s b tk₁):=
 bM h (λO O x=>x.b9 g) λO O x=>x.b9 g
end
theorem RM (i:Int)(k a):Ex d c b rs e q (.Constant (.int i) k a) (λO Q O Y=>Q (.int i) Y):=λg Q X Y A f s U h=>wpAny_Constant_int (ar.now U.I (.int _ _) h _)
theorem RN (k a):Ex d c b rs e q (.Constant .none k a) (λO Q O Y=>Q .none Y):=λg Q X Y A f s U h=>wpAny_Constant_none (ar.here U.I .none h)
theorem RO (b:Bool)(k a):Ex d e c rs f q (.Constant (.bool b) k a) (λO Q O Y=>Q (.bool b) Y):=λi Q X Y A g s U h=>wpAny_Constant_bool (ar.here U.I (.bool b) h)
theorem RP (x:Str)(k a)(e:x.cps.toList=l):Ex d c b rs f q (.Constant (.str x) k a) (λO Q O Y=>Q (.str l) Y):=λi Q X Y A g s U h=>wpAny_Constant_str (ar.now U.I (.str _ _ e) h _)
theorem RQ (x:List UInt8)(k a)(e:cv x=l):Ex d c b rs f q (.Constant (.bytes x) k a) (λO Q O Y=>Q (.bytes l) Y):=λi Q X Y A g s U h=>Constant_bytes (ar.now U.I (.bytes _ _ (by simpa using e)) h _)
theorem IS (e:rs.lookup x=some i)(n:(x==("__debug__":Str))=false)(l:(x==("__classdict__":Str))=false):Ex d C H rs D q (.Name x I) (λb Q O Y=>lT b i (λv=>Q v Y)):=λb Q X Y A J s U h=>by
 refine Ka (U.l.af x i e) λG g=>wpAny_Name (G1 h λv k h=>?_) n;have p:b.getD i none=some v:=by refine B (o3) (B k ?_);rfl
 rw[p] at g;rcases g with⟨hk,m,t,r⟩|⟨hk,c,u,f,a,r⟩
 ·exact ai (r v rfl) λw y r=>yu U.l.kind hk t y (ar.here U.I r h)
 ·refine ai (r v rfl) λw z j=>?_
  rw[z] at a;rcases hk with hk|hk
  ·exact wpAny_loadName_cell U.l.kind hk f a (ar.here U.I j h)
  ·exact wpAny_loadName_free U.l.kind hk f a (ar.here U.I j h) l
theorem RR (o:hJ)(t:Pos)(l:Ex d f e rs j q a z)(m:Ex d f e rs j q b H):
  Ex d f e rs j q (.BinOp a o.op b t) (λc Q X Y=>z c (λu Y=>H c (λv Y=>iA o u v Q Y) X Y) X Y):=λc Q X Y A C s U h=>by
 exact wpAny_BinOp (ar.first (l c _ X Y A C s U h) λva u G D I J g w n=>ar.next g (m c _ X G A D _ (U.go g) n) λvb v M L r y i k x p=>ar.cj k (PI (s:=aa s r y) i.ak o (i.dQ g.ak w) x p))
theorem RS (m:Pos)(k:Ex d f e rs l q a r):
  Ex d f e rs l q (.UnaryOp .USub a m) (λc Q X Y=>r c (λv Y=>v.cu (λi=>Q (.int (-i)) Y) False) X Y):=λc Q X Y A w s U h=>by
 exact wpAny_UnaryOp (ar.first (k c _ X Y A w s U h) λva u y x j p g n b=>ar.cj g (m7 n b λi t b=>PyProof.Rows.neg_int (ar.now (s:=aa s j p) g.ak (.int _ _) b _)))
include ok in
theorem RT (o:lO)(z:Pos)(x:behindInMarks o.op b=false)(t:Ex d j i rs k q a G)(w:Ex d j i rs k q b I):
  Ex d j i rs k q (.Compare a [o.op] [b] z) (λc Q X Y=>G c (λu Y=>I c (λv Y=>bQ (dG Y o u v) (λr=>Q (.bool r) Y)) X Y) X Y):=λc Q X Y A J s U h=>by
 exact wpAny_Compare1 (ar.first (t c _ X Y A J s U h) λva u M L N tk g H y=>ar.next g (w c _ X M A L _ (U.go g) y) λvb v bX eW l m e p C f=>ff f λr n f=>zH (s:=aa s l m) ok e.ak (qT U.ok) o n (e.dQ g.ak H) C λD=>(ar.now (s:=aa s l m) e.ak (.bool _) f D).b9 p) x
include ok in
theorem RV (o:lO)(z:Pos)(x:behindInMarks o.op b=false)(t:Ex d j i rs k q a G)(w:Ex d j i rs k q b I):
  Tx d j i rs k q (.Compare a [o.op] [b] z) (λc Q X Y=>G c (λu Y=>I c (λv Y=>bQ (dG Y o u v) (λr=>Q r Y)) X Y) X Y):=λc Q X Y A J s U h=>by
 exact wpAny_isTrue_Compare1 (ar.first (t c _ X Y A J s U h) λva u M L N tk g H y=>ar.next g (w c _ X M A L _ (U.go g) y) λvb v bX eW l m e p C f=>ff f λr n f=>zH (s:=aa s l m) ok e.ak (qT U.ok) o n (e.dQ g.ak H) C λD=>kK ((ar.now (s:=aa s l m) (R:=RB) e.ak rfl f D).b9 p)) x
theorem RW (y:Pos)(w:Tx d i f rs j q c C)(u:Ex d i f rs j q a z)(v:Ex d i f rs j q b H):
  Ex d i f rs j q (.IfExp c a b y) (λe Q X Y=>C e (λt Y=>if t then z e Q X Y else H e Q X Y) X Y):=λe Q X Y A D s U h=>by
 refine wpAny_IfExp (bM (w e _ X Y A D s U h) (λt I x=>?_) λO O x=>x);obtain⟨p,m,l,G,J,n,g,r,k⟩:=x;subst r;refine B n ?_;cases t
 ·exact bM (v e _ X m A l _ (U.go g) k) (λO O x=>x.b9 g) λO O x=>x.b9 g
 ·exact bM (u e _ X m A l _ (U.go g) k) (λO O x=>x.b9 g) λO O x=>x.b9 g
theorem RX (y:Pos)(w:Tx d i f rs j q c C)(u:Tx d i f rs j q a z)(v:Tx d i f rs j q b H):
  Tx d i f rs j q (.IfExp c a b y) (λe Q X Y=>C e (λt Y=>if t then z e Q X Y else H e Q X Y) X Y):=λe Q X Y A D s U h=>by
 refine((ae (bM (w e _ X Y A D s U h) (λt I x=>?_) λO O x=>x)):wpAny _ A (isTrue c f (eval c f)>>=λt=>_) _ _ s);obtain⟨p,m,l,G,J,n,g,r,k⟩:=x;subst r;refine B n ?_;cases t
 ·exact bM (v e _ X m A l _ (U.go g) k) (λO O x=>x.b9 g) λO O x=>x.b9 g
 ·exact bM (u e _ X m A l _ (U.go g) k) (λO O x=>x.b9 g) λO O x=>x.b9 g
theorem RY (j:Pos)(g:Tx d f e rs i q a k):Tx d f e rs i q (.UnaryOp .Not a j) (λc Q X Y=>k c (λb Y=>Q (!b) Y) X Y):=λc Q X Y A l s U h=>by exact wpAny_isTrue_Not (ar.map (g':=λb=>!b) (g c _ X Y A l s U h) λh v p r=>B (r:v=p) rfl)
theorem RZ (l:Ex d j f rs m q a t)(n:∀i,isTrue a f i=(do let v←i;standAt a.pos;holding [v] (truthy v))):
  Tx d j f rs m q a (λe Q X Y=>t e (λv Y=>v.hN (λb=>Q b Y) False) X Y):=λe Q X Y A w s U h=>by
 exact wpAny_isTrue_value (ar.first (l e _ X Y A w s U h) λva u y x k r g p c=>ar.cj g (s9 p c λb c=>kK (ar.here (s:=aa s k r) (R:=RB) g.ak rfl c))) (n _)
theorem R0 (m:Pos)(k:Ex d i f rs l q a t):Ex d i f rs l q (.UnaryOp .Not a m) (λe Q X Y=>t e (λv Y=>v.hN (λb=>Q (.bool !b) Y) False) X Y):=λe Q X Y A w s U h=>by refine wpAny_UnaryOp (ar.first (k e _ X Y A w s U h) λva u y x j p g n c=>ar.cj g (s9 n c λb c=>(?_:wpAny _ A (truthy (.bool b)>>=λr=>_) _ _ _)));exact ae (kK (aU (ar.here (s:=aa s j p) g.ak (.bool _) c)))
end
section
variable (ok:c7 c){rs:List (Str×Nat)}
theorem tg:iQ c b a rs d q [] (λO Q O Y=>Q [] Y):=λe g Q X Y A f s U h=>spliced_nil (ar.here U.I .nil h)
theorem oB (p:starEach (e::d) a=(false,eval e a)::starEach d a)(m:Ex c f a rs i q e w)(n:iQ c f a rs i q d H):
  iQ c f a rs i q (e::d) (λb Q X Y=>w b (λv Y=>H b (λj Y=>Q (v::j) Y) X Y) X Y):=λx b Q X Y A C s U h=>by
 exact B p (spliced_cons (ar.first (m b _ X Y A C s U h) λva u G D I L g y r=>ar.next g (n x b _ X G A D _ (U.go g) r) λj N bX eW J M k l z t=>⟨_,_,_,_,_,rfl,l,.cons (k.dQ g.ak y) z,t⟩))
theorem R1 (t:Nat)(e:Pos)(n:iQ c j i rs m q k p):
  Ex c j i rs m q (.Tuple k t e) (λb Q X Y=>p b (λa Y=>a.length<=aI/\Q (.av a) Y) X Y):=λb Q X Y A u s U h=>by
 refine wpAny_Tuple_spliced (ar.first (n e b _ X Y A u s U h) λa v x w l f g r d=>⟨?_,?_⟩)
 ·rw[r.length];exact aw d.1 dc
 ·exact(ar.av (s:=aa s l f) g.ak r d.2 f).b9 g
theorem R2 (e:Pos)(n:iQ c j i rs m q k p):
  Ex c j i rs m q (.List k e) (λb Q X Y=>p b (λa Y=>a.length<=aI/\bw Y (.list a) Q) X Y):=λb Q X Y A t s U h=>by
 refine wpAny_List_spliced (ar.first (n e b _ X Y A t s U h) λa u w v l f g r d=>⟨?_,?_⟩)
 ·exact B r.length (aw d.1 dc)
 ·exact(ar.list (s:=aa s l f) g.ak r d.2 f).b9 g
def wm (c:Cx) (a:List Env) (d:Env) (rs:List (Str×Nat)) (g:Nat) (q:Bool) (h:BoolOp) (f:List Expr) (w:WB):Prop:=
 ∀(e:aP) (Q:Bool->AH->Prop) (X:XP) (Y:AH) (A:Around) (b:Addr->Addr) (s:Shared),dR c a d rs g q A Y b e s->w e Q X Y->
  wpAny (model c.prog c.w) A (allTrue h f d) (CL c a Y b s Q) (cD c a Y b s X) s
noncomputable def iS (k:Bool):BoolOp:=if k then .And else .Or
theorem R3 (k:Bool)(x:Tx c i d rs l q e w)(m:wm c i d rs l q (iS k) v y):
  wm c i d rs l q (iS k) (e::v) (λa Q X Y=>w a (λb Y=>if b=k then y a Q X Y else Q b Y) X Y):=λa Q X Y A z s U h=>by
 refine((ae (ar.first (x a _ X Y A z s U h) λb u t p j n g r f=>?_)):wpAny _ A (isTrue e d (eval e d)>>=λb=>_) _ _ s);have r:b=u:=r;subst r;cases k<;>cases b
 ·exact ar.cj g (m a _ X t A p _ (U.go g) f)
 ·exact aU ((ar.here (s:=aa s j n) (R:=RB) g.ak rfl f).b9 g)
 ·exact aU ((ar.here (s:=aa s j n) (R:=RB) g.ak rfl f).b9 g)
 ·exact ar.cj g (m a _ X t A p _ (U.go g) f)
theorem R4 (k:Bool)(g:Pos)(f:wm c b a rs e q (iS k) d i):Tx c b a rs e q (.BoolOp (iS k) d g) i:=λl Q X Y A j s U h=>wpAny_isTrue_BoolOp (f l Q X Y A j s U h)
def pO (c:Cx) (a:List Env) (e:Env) (rs:List (Str×Nat)) (h:Nat) (q:Bool) (i:BoolOp) (g:List Expr) (w:WB):Prop:=
 ∀(j:Pos) (f:aP) (Q:PV->AH->Prop) (X:XP) (Y:AH) (A:Around) (d:Addr->Addr) (s:Shared),dR c a e rs h q A Y d f s->w f (λb Y=>Q (.bool b) Y) X Y->
  wpAny (model c.prog c.w) A (boolOp j i (evalEach g e)) (bN c a Y d s Q) (cD c a Y d s X) s
theorem R5 (k:Bool)(m:Ex c d j rs l q e w):pO c d j rs l q (iS k) [e] (λa Q X Y=>w a (λv Y=>v.hN (λb=>Q b Y) False) X Y):=λt a Q X Y A i s U h=>by refine bM (m a _ X Y A i s U h) (λv u x=>?_) λO O x=>x;obtain⟨p,H,y,f,n,rfl,g,r,z⟩:=x;exact s9 (C:=λv=>ag f v p->bN c d Y i s Q v (aa s f n)) r z (λb z r=>by cases r;exact⟨_,_,_,_,_,rfl,g,.bool b,z⟩) r
theorem R6 (k:Bool)(C:Ex c l i rs n q e w)(u:pO c l i rs n q (iS k) (d::H) D):
  pO c l i rs n q (iS k) (e::d::H) (λf Q X Y=>w f (λv Y=>v.hN (λb=>if b=k then D f Q X Y else Q b Y) False) X Y):=λj f Q X Y A G s U h=>by
 refine((ae (ar.first (C f _ X Y A G s U h) λv p z y m x g r a=>s9 r a λb a=>ae (il (ae (dm (kK ?_)))))):wpAny _ A (eval e i>>=λv=>standAt j>>=λO=>holding [v] (truthy v)>>=λt=>_) _ _ s);cases k<;>cases b
 ·exact ar.cj g (u j f _ X z A y _ (U.go g) a)
 ·exact aU ((ar.here (s:=aa s m x) g.ak (.bool _) a).b9 g)
 ·exact aU ((ar.here (s:=aa s m x) g.ak (.bool _) a).b9 g)
 ·exact ar.cj g (u j f _ X z A y _ (U.go g) a)
theorem R7 (k:Bool)(d:Pos)(j:pO c f e rs i q (iS k) g l):Ex c f e rs i q (.BoolOp (iS k) g d) (λa Q X Y=>l a (λb Y=>Q (.bool b) Y) X Y):=λa Q X Y A m s U h=>j d a Q X Y A m s U h
theorem IT {E:Value->Shared->Prop}(e:ItemOn (model c.prog c.w) A E o i P s):
  wpAny (model c.prog c.w) A (subscriptTail k d o i) P E s:=by
 refine n2 e λT id h f g=>?_;have a:∃b,subscripted d false o i=operate b (getItem o i):=by
  cases d with
  |Slice l u t p=>cases t<;>exact⟨_,rfl⟩
  |_=>exact⟨_,rfl⟩
 refine Ke a λb a=>?_;refine ae ?_;unfold getitemInPython;refine ae (sf f h ?_);refine aU ?_;refine B a (ae (wpAny_operateT (bM g (λr j x=>?_) λO O x=>x)));exact ae (wpAny_letTemporaryGo (aU x))
include ok in
theorem R8 (H:Pos)(x:Ex c j i rs l q a J)(y:Ex c j i rs l q b L):
  Ex c j i rs l q (.Subscript a b H) (λd Q X Y=>J d (λv Y=>L d (λk Y=>bQ (ix Y v k) (λr=>Q r Y)) X Y) X Y):=λd Q X Y A M s U h=>by
 rw[arm_eval_Subscript];exact ae (ar.first (x d _ X Y A M s U h) λva u σ' N h' tk g C z=>ae (dm (ar.next g (y d _ X σ' A N _ (U.go g) z) λvb v bX eW m n e t D f=>ae (il (ff f λr p f=>IT (HP (s:=aa s m n) ok e.ak p (e.dQ g.ak C) D λw I G=>(ar.now (s:=aa s m n) e.ak G f I).b9 t))))))
end
noncomputable def R9 (v:Value):Bool:=v.ctorIdx==(Value.ref 0).ctorIdx
def C9:List Value->Bool
 |[]=>false
 |v::r=>(R9 v&&C9 r)||(v::r==[.type "object"]||v::r==[.type "Exception",.type "BaseException",.type "object"])
theorem Dc (d:Value):∀{l:List Value},C9 l=true->refuseLoop d "__setattr__" l=pure ()/\l.contains (.type "object")=true
 |[],e=>nomatch e
 |v::r,e=>by
  rcases(Bool.or_eq_true _ _).mp e with e|e
  ·exact Ke ((Value.ref.elim (motive:=λv=>∃c,v=.ref c) v (bG.mp ((V e).1)) λc=>⟨c,rfl⟩)) λc f=>B f (Ka (Dc d (V e).2) λa b=>⟨by rw[refuseLoop_ref];exact a,by rw[List.contains_cons,b,Bool.or_true]⟩)
  ·rcases(Bool.or_eq_true _ _).mp e with e|e
   ·rw[bG.mp e];exact⟨PySem.F.store_object.passes d,by decide+kernel⟩
   ·rw[bG.mp e];exact⟨PySem.F.store_Exception.passes d,by decide+kernel⟩
def ti (K:Frag) (C:Addr):Bool:=(clsIn K C).any λa=>C9 a.mro
section
variable {a:Program}{w:World}{A:Around}{E:Value->Shared->Prop}{s:Shared}{K:Frag}{x C:Addr}{j:Obj}{i:Option Obj}{name:Str}{c:Tok}{v:Value}
theorem IU (X:K.In s.heap)(I:W.InstAt s.heap x j C i)(p:ti K C=true)(r:findIn K (.ref C) name=some none)
  (h:∀b,wpAny (model a w) A.in1 (Builtin.ObjectAttr.storeInOwnDict (.ref x) (.ref C) (.str name c) name v b)
   (λcj k=>match cj with|.done f=>R (.ok f) k|.again m=>m.quiet=true/\codeAny (model a w) A m R k) (λe k=>R (.error e) k) s):
  codeAny (model a w) A (.call (.builtin "object.__setattr__") ⟨[.ref x,.str name c,v],[]⟩) R s:=by
 have d:=PySem.F.store_object;refine ai (any_some p) λl n g=>?_;have t:l.mro.isEmpty=false:=by cases q:l.mro with|nil=>have g:=q▸g;cases g|cons O O=>rfl
 refine codeAny_call_builtin d.slot.plain d.entry (@check_slot (model a w) _ _ s "object.__setattr__" "object" "__setattr__" (.ref x) [.str name c,v] [] _ d.kind d.split (I.type.andThen (looks_mroIn X (by unfold mroIn;rw[n,sa,aH (by refine B t ?_;decide),(Dc (.ref x) g).2]))) (d.args (.ref x) (.str name c) v) ?_);rw[osa_eq,refuse_eq];refine ae (ae (I.type.here (ae (((looks_clsIn X n).andThen .now:Looks (model a w) s.heap (mroOf (.ref C)) l.mro).here ?_))));refine B ((Dc (.ref x) g).1) ?_;refine aU (ae (I.type.here (ae ((looks_findIn X r).here (ae ((.now:Looks (model a w) s.heap (Builtin.ObjectAttr.storeTaker? none) none).here ?_))))));exact h _
theorem Sa (X:K.In s.heap)(I:W.InstAt s.heap x j C i)(l:findIn K (.ref C) "__getattribute__"=some (some (.builtin "BaseException.__getattribute__")))
  (m:findIn K (.ref C) "__getattr__"=some none) (p:mroIn K C (.type "BaseException")=some true) (k:findObj K C i name=some (.value v)) (n:handedIn v=true) (h:Q v {s with toks:=s.toks+1}):wpAny (model a w) A (getAttr (.ref x) name b) Q E s:=by
 obtain⟨u,g,d,t,os⟩:=s;have L0:=I.type (M:=model a w);have q:(b&&onTheHeap (Value.builtin "BaseException.__getattribute__"))=false:=by cases b<;>rfl
 have r:(onTheHeap (Value.ref C)&&Value.builtin "BaseException.__getattribute__"==Value.builtin "object.__getattribute__")=false:=by refine B (by decide+kernel:(Value.builtin "BaseException.__getattribute__"==Value.builtin "object.__getattribute__")=false) ?_;rfl
 have e:builtinKind "BaseException.__getattribute__"=some .slot:=by decide+kernel
 have f:bindSpecial (.builtin "BaseException.__getattribute__") (.ref x)=pure (.builtin "BaseException.__getattribute__",[.ref x]):=by simp only[bindSpecial,typeOf,builtinType,show withoutEnding? "BaseException.__getattribute__" "#opaque"=none by decide+kernel,show withoutEnding? "BaseException.__getattribute__" "#data"=none by decide+kernel,e];rfl
 refine ae (wpAny_mkText (dm (ae (L0.at (ae ((looks_findIn (M:=model a w) X l).at ?_))))));dsimp only;refine B r (B (aH dc) ?_);unfold getAttrByItsOwn hookBefore;refine B (show onTheHeap (Value.ref C)=true from rfl) (B (aG rfl) (ae ((looks_findIn (M:=model a w) X m).at (ae (uZ (dm ?_))))));unfold callGetattribute;refine B q (B (aH dc) ?_);unfold boundAndCalled;exact B f (ae (aU (n7 (codeAny_call_builtin (by decide+kernel:plainId "BaseException.__getattribute__"=true) F.entry_bexc_ga (@check_slot (model a w) _ _ _ "BaseException.__getattribute__" "BaseException" "__getattribute__" (.ref x) [.str name t] [] _ e (by decide+kernel:splitId "BaseException.__getattribute__"=some ("BaseException","__getattribute__")) (L0.andThen (looks_mroIn X p)) (F.args_bexc_ga (.ref x) (.str name t)) (ae (aU (ae (aU (ae (L0.at (ae ((looks_find (M:=model a w) X I k).at (aU ((B (handedOut_of n) (aU h)):wpAny _ _ (handedOut v) _ _ _)))))))))))))))
end
noncomputable def Dd (K:Frag)(C:Addr):Bool:=(findIn K (.ref C) "__getattribute__"==some (some (.builtin "object.__getattribute__")))||
 ((findIn K (.ref C) "__getattribute__"==some (some (.builtin "BaseException.__getattribute__")))&&(findIn K (.ref C) "__getattr__"==some none)&&(mroIn K C (.type "BaseException")==some true))
structure wq (b:Cx):Prop where
 cls:∀c a,c.fM a=true->∃d,clsIn b.K (b.cy c)=some d/\d.hasDict=true/\findIn b.K (.ref (b.cy c)) a.str=some none/\Dd b.K (b.cy c)=true/\
  findIn b.K (.ref (b.cy c)) "__setattr__"=some (some (.builtin "object.__setattr__"))/\ti b.K (b.cy c)=true
noncomputable def wx (o:Expr):Bool:=o.ctorIdx !=16
theorem IV (h:wx o=true)(a:Str)(b:Env)(w:Sem Value):attributeBase o a b w=w:=by
 cases o with
 |Call f args c d=>injection h
 |_=>rfl
theorem At.Sb:∀i j:Fin 29,(⟨i⟩:At).str.cps=(⟨j⟩:At).str.cps->i=j:=by decide+kernel
theorem IW (a b:At)(t:Tok):(Value.str a.str t).isStr b.str=decide (a=b):=by
 refine(?_:(a.str==b.str)=_);by_cases h:a=b
 ·subst h;simp
 ·have:a.str≠b.str:=λe=>h ((br At.mk (At.Sb a.i b.i (br Str.cps e))))
  exact B (eA.mpr this) (B (iM h) rfl)
theorem ft.find (r:ft P h d f)(a:At):iO h ((d.find? (·.key.isStr a.str)).map (·.val)) (eE f a):=by
 induction r with
 |nil=>trivial
 |@cons t v b q r s g i c=>
  unfold eE at c⊢;rw[mL,d0];rw[IW];by_cases e:b=a
  ·refine B e ?_;simp only[decide_true,beq_self_eq_true];exact g
  ·simp only[e,decide_false,(by simpa using λh=>e h.symm:(a==b)=false)];exact c
theorem ft.IX (r:ft P h a c):a.any (·.refKey)=false:=by
 induction r with
 |nil=>rfl
 |cons e d b=>refine B kM (B b ?_);rfl
theorem ft.dA (r:ft P h d f)(a:At)(c:ag h v u)(t:Tok):ft P h (putL a.str (PyData.keyHash P a.str) (.str a.str t) v d) (jc f a u):=by
 induction r with
 |nil=>exact .cons c .nil
 |@cons k l b q r s i g j=>
  unfold putL jc;rw[IW];by_cases e:b=a
  ·subst e;simp only[decide_true,if_true];exact .cons c g
  ·simp only[e,decide_false,Bool.false_eq_true,if_false];exact .cons i j
theorem ft.length (r:ft P h a b):a.length=b.length:=by
 induction r with
 |nil=>rfl
 |cons O O c=>exact B e8 (B e8 (B c rfl))
theorem De (name:Str)(k:Int)(key v:Value):∀a:List DictEntry,(putL name k key v a).length<=a.length+1
 |[]=>by simp[putL]
 |e::r=>by
  unfold putL;split
  ·simp
  ·have:=De name k key v r;simp only[List.length_cons];exact fZ (by assumption)
theorem IY (r:ag h v p):handedIn v=true:=by cases r<;>rfl
theorem jY (ok:c7 a)(I:bk a c Y d h):a.K.In h:=ok.HH.keeps λb o e=>I.hW b o e
section
variable (ok:c7 d)(i:wq d){s:Shared}{E:Value->Shared->Prop}(I:bk d h Y g s.heap)
include ok i I
theorem IZ (e:Y x=some (.bc c t))(w:c.fM a=true)(L:eE t a=some u)(p:∀v,ag s.heap v u->P v {s with toks:=s.toks+1}):
  wpAny (model d.prog d.w) A (getAttr (.ref x) a.str ex) P E s:=by
 obtain⟨o,f,n,U,y,z,H,C,J⟩:=I.mt.aa x _ e;refine gk (i.cls c a w) λm k1 k2 M=>lz M λk3 j k5 k6=>?_;have G:notCls o=true:=by rcases H with q|⟨vs,q⟩<;>(unfold notCls;exact B q rfl)
 have l:W.InstAt s.heap x o (d.cy c) (some (dictOf f n)):=⟨U,y,G,B z C⟩;have b:=J.find a;have b:=L▸b;cases q:f.find? (·.key.isStr a.str) with
 |none=>have b:=q▸b;exact b.elim
 |some k=>
  have b:=q▸b;have D:lookIn a.str (dictOf f n)=some (some k.val):=by unfold lookIn;refine(?_:(match f.toArray.toList.find? (·.key.isStr a.str) with|some e=>some (some e.val)|none=>_)=_);exact B (rfl:f.toArray.toList=f) (B q rfl)
  have r:findObj d.K (d.cy c) (some (dictOf f n)) a.str=some (.value k.val):=by unfold findObj;rw[k1,sa,k3,sa];refine(?_:(W.ownOf m (some (dictOf f n)) a.str).bind _=_);rw[show W.ownOf m (some (dictOf f n)) a.str=some (some k.val) by unfold W.ownOf;exact B k2 (B (aG rfl) D)];rfl
  unfold Dd at j;simp only[Bool.or_eq_true,Bool.and_eq_true,beq_iff_eq] at j;rcases j with j|⟨⟨j,N⟩,Q⟩
  ·exact get_value (jY ok I) l j r (IY b) (p _ b)
  ·exact Sa (jY ok I) l j N Q r (IY b) (p _ b)
theorem I1 (e:Y x=some (.bc c k))(D:c.fM a=true)(hz:k.length<=50)(Q:ag s.heap v u){K:AH->Prop}(C:K (Y.set x (.bc c (jc k a u)))):
  wpAny (model d.prog d.w) A (setAttr (.ref x) a.str v) (ar d RU h Y g s (λO Y=>K Y)) E s:=by
 obtain⟨o,f,n,w,l,m,G,j,p⟩:=I.mt.aa x _ e;refine gk (i.cls c a D) λcd k1 k2 L=>lz L λk3 k4 M N=>?_;have U:notCls o=true:=by rcases G with q|⟨vs,q⟩<;>(unfold notCls;exact B q rfl)
 have X:=jY ok I;have r:W.InstAt s.heap x o (d.cy c) (some (dictOf f n)):=⟨w,l,U,B m j⟩;refine set_plain X r M (IU (s:={s with toks:=s.toks+1}) X r N k3 λb=>?_);have H:d.K.In ({s with toks:=s.toks+1}:Shared).heap:=X;obtain⟨oc,odi,oda,Se⟩:=o;dsimp only at l m;subst l m;refine ae (aU (ae (ae (sg w (ae ((looks_clsIn H k1).here (B k2 (aU (a:=some (g x)) (ae (aU (ae (ae (ae (wpAny_askSetting (aU (ae (wpAny_mkText (ae (sg j ?_)))))))))))))))))));have J:(!(f.toArray).any (·.key.isStr a.str)&&(f.toArray).any (·.refKey))=false:=by rw[←Array.any_toList (p:=λe:DictEntry=>e.refKey),show f.toArray.toList=f from rfl,p.IX,Bool.and_false]
 refine(?_:wpAny _ _ (if aRefKeyMayBeTheName a.str f.toArray=true then _ else _) _ _ _);rw[aRefKeyMayBeTheName_at,J];refine iq rfl ?_;have y:=putName_dict a.str (PyData.keyHash d.w.params a.str) (.str a.str (s.toks+1)) v f n;have z:(s.heap.update (g x) (Obj.putName a.str (PyData.keyHash d.w.params a.str) (.str a.str (s.toks+1)) v)).get? (g x)=some (dictOf (putL a.str (PyData.keyHash d.w.params a.str) (.str a.str (s.toks+1)) v f) (putN a.str f n)):=by exact B (uK _ j (by rw[y];rfl)) (B y rfl)
 refine wpAny_updatePart j ?_;have hlen:(putL a.str (PyData.keyHash d.w.params a.str) (.str a.str (s.toks+1)) v f).length<=60:=by have:=De a.str (PyData.keyHash d.w.params a.str) (.str a.str (s.toks+1)) v f;have:=p.length;lia
 exact ae (wpAny_lookBehind z (pastItsLine_dict (B ei (B jR (aw bW dc)))) (aU ⟨(),_,g,_,_,rfl,(Go.field (fs':=jc k a u) I e (o5 s.heap (g x) (Obj.putName a.str (PyData.keyHash d.w.params a.str) (.str a.str (s.toks+1)) v)) λt=>gE _ _ z ((p.bU t).dA a (ag.bU t Q) _)),trivial,C⟩))
end
section
variable (ok:c7 d)(f:wq d){rs:List (Str×Nat)}
include ok f in
theorem Sf (a:At)(G:Pos)(y:wx e=true)(H:Ex d n m rs z q e w):
  Ex d n m rs z q (.Attribute e a.str G) (λi Q X Y=>w i (λv Y=>v.d7 (λx=>hO (λc j=>c.fM a=true/\bQ (eE j a) (λu=>Q u Y)) False (Y x)) False) X Y):=λi Q X Y A J s U h=>by
 rw[arm_eval_Attribute,IV y];exact ae (ar.first (H i _ X Y A J s U h) λv p M L k l g r b=>ae (il (ae (dm (jd r b λx b=>y9 b λc j t b=>ff b.2 λu D C=>IZ (s:=aa s k l) ok f g.ak t b.1 D λv I=>ae (wpAny_letTemporaryGo (aU ((ar.now (s:=aa s k l) g.ak I C _).b9 g))))))))
def Px (d:Cx) (a:List Env) (c:Env) (rs:List (Str×Nat)) (g:Nat) (q:Bool) (o:Option Expr) (w:WE):Prop:=
 ∀(e:aP) (Q:PV->AH->Prop) (X:XP) (Y:AH) (A:Around) (b:Addr->Addr) (s:Shared),dR d a c rs g q A Y b e s->w e Q X Y->
  wpAny (model d.prog d.w) A (valueOrNone (evalOpt o c)) (bN d a Y b s Q) (cD d a Y b s X) s
def Sg (d:Cx) (b:List Env) (P:PV->PV->PV->PV->(PV->AH->Prop)->AH->Prop):Prop:=∀(A:Around) (E:Value->Shared->Prop) (Y:AH) (g:Addr->Addr) (s:Shared),bk d b Y g s.heap->∀(v lo c st:PV) (a va vb vc:Value) (e:Addr),s.heap.IsSliceOf e va vb vc->ag s.heap a v->ag s.heap va lo->ag s.heap vb c->ag s.heap vc st->
 ∀Q:PV->AH->Prop,P v lo c st Q Y->ItemOn (model d.prog d.w) A E a (.ref e) (bN d b Y g s Q) s
theorem Si (sb:Sg d i P){wa wl wu wt:WE}(p pos:Pos)(ha:Ex d i k rs x q a wa)(hl:Px d i k rs x q l wl)(hu:Px d i k rs x q u wu)(ht:Px d i k rs x q t wt):
  Ex d i k rs x q (.Subscript a (.Slice l u t p) pos) (λg Q X Y=>wa g (λv Y=>wl g (λa Y=>wu g (λb Y=>wt g (λc Y=>P v a b c Q Y) X Y) X Y) X Y) X Y):=λg Q X Y A δ s U h=>by
 rw[arm_eval_Subscript];refine ae (ar.first (ha g _ X Y A δ s U h) λva pa cN δ₁ h₁ iT G ra l7=>?_);refine ae (dm ?_);refine(?_:wpAny _ A (valueOrNone (evalOpt l k)>>=λl'=>_) _ _ _);refine ae (ar.next G (hl g _ X cN A δ₁ _ (U.go G) l7) λz pl bX eW dH dI k₂ n rl Df=>?_);refine ae (dm (ar.next n (hu g _ X bX A eW _ (U.go n) Df) λH pu d8 qU eX eO zO I ru wy=>?_));refine ae (dm (ar.next I (ht g _ X d8 A qU _ (U.go I) wy) λvt pt D C j N Sj w rt wz=>?_));refine qw (ae (il ?_));have M:fp j (j.push {cls:=.type "slice",data:=.fields #[z,H,vt]}):=λb o e=>cR _ e;have J:(j.push {cls:=.type "slice",data:=.fields #[z,H,vt]}).IsSliceOf j.objs.size z H vt:=Heap.IsSliceOf.new ..;revert M J;refine BG (j.push {cls:=.type "slice",data:=.fields #[z,H,vt]}) λy M J=>?_;have m:Go d i D C j D C y:=Go.ext w.ak M;have L:=λv p (r:ag eX v p)=>m.dQ w.ak (Sj.dQ I.ak r);exact n2 (sb A (cD d i D C (aa s y N) X) D C (aa s y N) m.ak _ _ _ _ _ _ _ _ _ J (L _ _ (zO.dQ n.ak (k₂.dQ G.ak ra))) (L _ _ (zO.dQ n.ak rl)) (L _ _ ru) (m.dQ w.ak rt) _ wz) λT id e1 e2 e3=>IT (s:=aa s y N) (iZ T id e1 e2 (ar.cj (w.trans m) e3))
theorem Sk (o p:lO)(k:Pos)(hm:behindInMarks o.op b=false)(Dg:behindInMarks p.op c=false)(ok:c7 d)(ha:Ex d y e rs D q a wa)(hb:Ex d y e rs D q b wb)(pP:Ex d y e rs D q c wc):
  Ex d y e rs D q (.Compare a [o.op,p.op] [b,c] k) (λj Q X Y=>wa j (λu Y=>wb j (λv Y=>bQ (dG Y o u v) (λr=>if r then wc j (λx Y=>bQ (dG Y p v x) (λr=>Q (.bool r) Y)) X Y else Q (.bool false) Y)) X Y) X Y):=λj Q X Y A δ s U h=>by
 refine(?_:wpAny _ A (eval a e>>=λl=>compareChain k l [o.op,p.op] (markedEach [o.op,p.op] [b,c] (evalEach [b,c] e))) _ _ s);have Sl:markedEach [o.op,p.op] [b,c] (evalEach [b,c] e)=[eval b e,eval c e]:=by refine(?_:[eval b e,markedBehindIn p.op c (eval c e)]=_);unfold markedBehindIn;exact B Dg rfl
 refine B Sl (ae (ar.first (ha j _ X Y A δ s U h) λva pa cN δ₁ h₁ iT H ra l7=>((ae (dm (ar.next H (hb j _ X cN A δ₁ _ (U.go H) l7) λvb pb bX eW G M k₂ i L w=>ae (il (ae (dm (ff w λr z w=>zH (s:=aa s G M) ok i.ak (qT U.ok) o z (k₂.dQ H.ak ra) L λn=>ae (wpAny_release (ae (dm (kK ?_))))))))))):wpAny _ A (holding [va] (eval b e)>>=λg=>standAt k>>=λO=>holding [va,g] (compareOp o.op va g)>>=λm=>release [va,g] [m]>>=λO=>holding [m,g] (truthy m)>>=λt=>if t=true then compareChain k g [p.op] [eval c e] else pure m) _ _ _)));cases r with
 |false=>exact aU ((ar.now (s:=aa s G M) i.ak (.bool _) w n).b9 i)
 |true=>refine((ae (dm (ar.next i (pP j _ X bX A eW (aa s G n) ⟨U.ok,i.ak,U.l.go U.I i⟩ w) λvc pc d8 qU J N zO C rc I=>?_))):wpAny _ A (holding [vb] (eval c e)>>=λg=>standAt k>>=λO=>operate [vb,g] (compareOp p.op vb g)) _ _ _);exact ae (il (wpAny_operateT (ff I λr z I=>zH (s:=aa s J N) ok C.ak (qT U.ok) p z (zO.dQ i.ak L) rc λn=>(ar.now (s:=aa s J N) C.ak (.bool _) I n).b9 C)))
end
def Gv (b:Cx) (x:Str) (v:Value):Prop:=
 (∃a,b.base.Ns mainGlobals a/\a x=some v)∨(∃a c,b.base.Ns mainGlobals a/\a x=none/\b.base.Ns builtinsNs c/\c x=some v)
theorem m9 {E:Value->Shared->Prop}(e:a.any (·.1)=false)(h:wpAny M A (spliced a) (λc b=>Q ⟨c,[]⟩ b) E s):
  wpAny M A (evalArgs f true a []) Q E s:=by
 cases a with
 |nil=>exact((ae (bM h (λc b d=>ae (aU (dm (ae (aU (ae (aU (aU d)))))))) λO O x=>x)):wpAny M A (spliced []>>=_) Q E s)
 |cons p g=>
  obtain⟨st,x⟩:=p;cases st with
  |true=>injection e
  |false=>exact Calls.evalArgs_plain h
theorem Dh {E:Value->Shared->Prop}(b:(∃id,v=.builtin id)∨(∃T,v=.type T))(a:args.any (·.1)=false)
  (h:wpAny M A (spliced args) (λvs c=>wpAny M A (call v (first++vs)) Q E c) E s):wpAny M A (callWith d v first args []) Q E s:=by
 rcases b with⟨id,rfl⟩|⟨T,rfl⟩
 ·exact callWith_builtin a (m9 a h)
 ·exact u9 a (m9 a h)
section
variable (ok:c7 a){rs:List (Str×Nat)}
theorem jC (i:d.kindOf x=some .globalImplicit)(g:(x==("__debug__":Str))=false)(j:Gv a x v)(U:dR a m d rs p q A Y u w s){E:Value->Shared->Prop}(h:P v s):
  wpAny (model a.prog a.w) A (eval (.Name x t) d) P E s:=by
 refine Name_function_global U.l.kind i ?_ g;have c:fp a.base s.heap:=λb o e=>U.I.hW b o e;rcases j with⟨k,n,e⟩|⟨k,r,n,e,l,f⟩
 ·exact loadGlobal_global (B U.l.cH (n.keeps c)) e h
 ·exact loadGlobal_builtin (B U.l.cH (n.keeps c)) e (B U.l.blt (l.keeps c)) f h
noncomputable def Bi.val:Bi->Value
 |.len=>.builtin "len"|.mS=>.builtin "ord"|.pq=>.builtin "chr"|.bytes=>.type "bytes"|.str=>.type "str"|.sorted=>.builtin "sorted"|.all=>.builtin "all"|.any=>.builtin "any"|.int=>.type "int"|.list=>.type "list"|.tuple=>.type "tuple"|.isStr=>.builtin "isinstance"
theorem Bi.Sm {b:Bi}(d:b≠.isStr)(c:List Value):b.run c=call b.val c:=by
 cases b with
 |isStr=>exact absurd rfl d
 |_=>unfold Bi.run Bi.val;rfl
include ok in
theorem Sn (b:Bi)(p:b≠.isStr)(y:i.kindOf x=some .globalImplicit)(v:(x==("__debug__":Str))=false)(C:Gv a x b.val)(H:(backTo m (starEach k i)).any (·.1)=false)(w:iQ a d i rs u q k G):
  Ex a d i rs u q (.Call (.Name x L) k [] m) (λj Q X Y=>q=false/\G j (λc Y=>iz b c Q Y) X Y):=λj Q X Y A f s U h=>by
 obtain⟨z,h⟩:=h;refine n6 (jC y v C U ?_);have run:∀c e,Hh a d Y f s (λc Y=>iz b c Q Y) c e->wpAny (model a.prog a.w) A (call b.val c) (bN a d Y f s Q) (cD a d Y f s X) e:=by rintro c e ⟨M,J,I,l,n,rfl,g,r,D⟩;have:=Io (s:=aa s l n) (E:=cD a d J I (aa s l n) X) ok g.ak (U.ok.quiet z) b r D;rw[Bi.Sm p] at this;exact ar.cj g this
 have t:(∃id,b.val=.builtin id)∨(∃T,b.val=.type T):=by cases b<;>first|exact .inl ⟨_,rfl⟩|exact .inr ⟨_,rfl⟩
 exact Dh t H (bM (w m j _ X Y A f s U h) (λc e x=>run c e x) λO O x=>x)
end
section
variable (ok:c7 i){rs:List (Str×Nat)}
theorem eN.I2 (a:eN A b c q)(h:n<c):eN A b n q:=⟨a.frames,a.quiet,pj (w:=0) a.depth h (Nat.zero_le _),pj (w:=0) a.units h (Nat.zero_le _)⟩
theorem eN.made (a:eN A d e q)(h:n<e)(C:Addr)(c:List Value)(b:List (Str×Value)):eN (A.under (.builtin "type.__call__" ⟨.ref C::c,b⟩)) d n q:=by
 have u:(Code.builtin "type.__call__" ⟨.ref C::c,b⟩).cUnits<=2:=by exact bl
 refine⟨a.frames,a.quiet,?_,?_⟩
 ·exact((B (rfl:(Code.builtin "type.__call__" ⟨.ref C::c,b⟩).weight=1) (pj a.depth h dc)):A.depth+(Code.builtin "type.__call__" ⟨.ref C::c,b⟩).weight+_+_<=_)
 ·exact((pj a.units h (aw u dc)):A.units+(Code.builtin "type.__call__" ⟨.ref C::c,b⟩).cUnits+_+_<=_)
include ok in
theorem So (f:Fn)(u:a.kindOf x=some .globalImplicit)(p:(x==("__debug__":Str))=false)(w:Gv i x (.ref (i.c1 f)))(v:keepIn i.K (.ref (i.c1 f))=true)
  (k:(backTo m (starEach e a)).any (·.1)=false) (t:iQ i d a rs j q e z):
  Ex i d a rs j q (.Call (.Name x D) e [] m) (λc Q X Y=>z c (λb Y=>i.ht f<j/\aY i q f b Q X Y) X Y):=λc Q X Y A H s U h=>by
 refine n6 (jC u p w U (callWith_of (P:=i.K.In) (by refine B k ?_;rfl) (keeps_K v) ?_));exact m9 k (ar.first (t m c _ X Y A H s U h) λb G I C n y g r l=>⟨jY ok g.ak,ar.cj g (n7 (l.2 A d C (aa s n y) b (U.ok.I2 l.1) g.ak r))⟩)
structure Di (i:Cx)(c:Cl):Prop where
 bh:keepIn i.K (.ref (i.cy c))=true
 Sp:makesIn i.K (i.cy c)=true
 gw:findIn i.K (.ref (i.cy c)) "__init__"=some (some (.ref (i.c1 c.gw)))
 wA:typeIn i.K (.ref (i.c1 c.gw))=some (.type "function")
include ok in
theorem Sq (c:Cl)(mk:Di i c)(a:eN A k D q)(I:bk i k Y m s.heap)(r:aJ s.heap vs J)
  (h:∀z,Y z=none->i.ht c.gw<D/\aY i q c.gw (.ref z::J) (λr Y=>r.iw (Q (.ref z) Y) False) X (Y.set z (.bc c []))):
  wpAny (model i.prog i.w) A (call (.ref (i.cy c)) vs) (bN i k Y m s Q) (cD i k Y m s X) s:=by
 have K0:=jY ok I;obtain⟨j,g,d,t,os⟩:=s;refine n7 (make_core (makes_of K0 mk.Sp) (looks_findIn K0 mk.gw) (λM=>bind_fn K0 M mk.wA) (.inl rfl) ?_);have u:j.get? (j.objs.size+1)=none:=fY (qD _);have w:∀b o,j.get? b=some o->((j.push emptyDict).push (instObj (i.cy c) j.objs.size)).get? b=some o:=λb o e=>cR _ (cR _ e);have G:=Go.new (δ':=λa=>if a=j.objs.size+1 then j.objs.size else m a) (o:=.bc c []) I u w ⟨instObj (i.cy c) j.objs.size,[],0,by heap_get,rfl,by simp,.inl rfl,by dsimp only;refine B (aG rfl) ?_;exact cR _ (eK _ rfl),.nil⟩ (λa n=>aH n) (λc fs e=>by dsimp only;exact B (aG rfl) ⟨(fY (dE _)),kO (n5 _)⟩)
 refine Ka (h _ (Hq I u)) λH C=>codeAny_mono (C _ k _ ⟨(j.push emptyDict).push (instObj (i.cy c) j.objs.size),g,d,t,os⟩ _ (a.made H _ _ _) G.ak (.cons (.ref _) (aJ.bU (lY w) r))) λr s' z=>?_;cases r with
 |error e=>exact cD.b9 (tk:=t) (s:=⟨j,g,d,t,os⟩) G z
 |ok f=>
  cases f with
  |ret v=>obtain⟨p,bX,eW,U,N,x,y,L,l⟩:=z;refine B x ?_;exact tc L l λl=>⟨rfl,_,bX,eW,U,N,rfl,G.trans y,.ref _,l⟩
  |_=>exact z.elim
include ok in
theorem Sr (c:Cl)(mk:Di i c)(t:a.kindOf x=some .globalImplicit)(n:(x==("__debug__":Str))=false)(u:Gv i x (.ref (i.cy c)))
  (f:(backTo j (starEach d a)).any (·.1)=false) (p:iQ i l a rs e q d y):
  Ex i l a rs e q (.Call (.Name x C) d [] j) (λb Q X Y=>y b (λk Y=>∀z,Y z=none->i.ht c.gw<e/\aY i q c.gw (.ref z::k) (λr Y=>r.iw (Q (.ref z) Y) False) X (Y.set z (.bc c []))) X Y):=λb Q X Y A H s U h=>by
 exact n6 (jC t n u U (callWith_of (P:=i.K.In) (by rw[f];rfl) (keeps_K mk.bh) (m9 f (ar.first (p j b _ X Y A H s U h) λk D I G m w g r v=>⟨jY ok g.ak,ar.cj g (Sq ok c mk (s:=aa s m w) U.ok g.ak r v)⟩))))
end
theorem Su:∀(a:Fin 29) (m:Fin 57),((⟨a⟩:At).str==(⟨m⟩:bE).str)=true->(⟨m⟩:bE).kU=some ⟨a⟩:=by decide+kernel
theorem Sw {m:bE}(h:(a.str==m.str)=true):m.kU=some a:=Su a.i m.i h
theorem ft.Sy {h:Heap}(r:ft P h d f){m:bE}(c:(m.kU.all λa=>(eE f a).isNone)=true):d.find? (·.key.isStr m.str)=none:=by
 induction r with
 |nil=>rfl
 |@cons t v b q r s j i g=>
  have ns:((b.str:Str)==m.str)=false:=by
   cases e:((b.str:Str)==m.str) with
   |false=>rfl
   |true=>rw[Sw e] at c;simp[eE] at c
  refine B (mL) (?_:(match(b.str==m.str) with|true=>_|false=>_)=none);refine B ns (g ?_);cases e:m.kU with
  |none=>rfl
  |some a=>
   rw[e] at c;have c:(eE ((b,q)::s) a).isNone=true:=c;refine(?_:(eE s a).isNone=true);unfold eE at c⊢;rw[d0] at c;split at c
   ·simp at c
   ·exact c
noncomputable def MK.str:MK->Str
 |.append=>"append"
 |.pz=>"extend"
 |.fJ=>"pop"
 |.get=>"get"
 |.oh=>"setdefault"
 |.split=>"split"
 |.startswith=>"startswith"
 |.endswith=>"endswith"
 |.find=>"find"
 |.mV=>"strip"
 |.join=>"join"
 |.vT=>""
theorem Sz:∀m:Fin 57,(⟨m⟩:bE).kn=.vT∨(⟨m⟩:bE).str=(⟨m⟩:bE).kn.str:=by decide+kernel
theorem SA (m:bE):m.kn=.vT∨m.str=m.kn.str:=Sz m.i
theorem SD {k:Kd}{id:String}(h:k.pF m=some id):PlainAttrs k.T/\Slot k.T m.str id/\typeOf (.builtin id)=pure (.type "method_descriptor"):=by
 cases k with
 |list=>
  cases m with
  |append=>have h:=bo h;exact az h (aS PySem.F.plainAttrs_list PySem.F.slot_list_append PySem.F.type_list_append)
  |pz=>have h:=bo h;exact az h (aS PySem.F.plainAttrs_list PySem.F.slot_list_extend PySem.F.type_list_extend)
  |fJ=>have h:=bo h;exact az h (aS PySem.F.plainAttrs_list PySem.F.slot_list_pop PySem.F.type_list_pop)
  |_=>injection h
 |dict=>
  cases m with
  |fJ=>have h:=bo h;exact az h (aS PySem.F.plainAttrs_dict PySem.F.slot_dict_pop PySem.F.type_dict_pop)
  |get=>have h:=bo h;exact az h (aS PySem.F.plainAttrs_dict PySem.F.slot_dict_get PySem.F.type_dict_get)
  |oh=>have h:=bo h;exact az h (aS PySem.F.plainAttrs_dict PySem.F.slot_dict_setdefault PySem.F.type_dict_setdefault)
  |_=>injection h
 |str=>
  cases m with
  |split=>have h:=bo h;exact az h (aS uU PySem.F.slot_str_split PySem.F.type_str_split)
  |startswith=>have h:=bo h;exact az h (aS uU PySem.F.slot_str_startswith PySem.F.type_str_startswith)
  |endswith=>have h:=bo h;exact az h (aS uU PySem.F.slot_str_endswith PySem.F.type_str_endswith)
  |find=>have h:=bo h;exact az h (aS uU PySem.F.slot_str_find PySem.F.type_str_find)
  |join=>have h:=bo h;exact az h (aS uU PySem.F.slot_str_join PySem.F.type_str_join)
  |_=>injection h
 |bytes=>
  cases m with
  |split=>have h:=bo h;exact az h (aS uM BK.Iu BK.QZ)
  |startswith=>have h:=bo h;exact az h (aS uM FB.slot_bytes_startswith FB.type_bytes_startswith)
  |find=>have h:=bo h;exact az h (aS uM BK.C3 BK.Q2)
  |mV=>have h:=bo h;exact az h (aS uM BK.Iy BK.Q3)
  |join=>have h:=bo h;exact az h (aS uM BK.C4 BK.Q6)
  |_=>injection h
theorem SE {k:Kd}{id:String}(h:k.ou m=some id):PlainAttrs k.T/\Slot k.T m.str id/\typeOf (.builtin id)=pure (.type "method_descriptor"):=
 (SA m).elim (λe=>by unfold Kd.ou at h;rw[e] at h;cases k<;>injection h) λe=>e▸SD h
structure I3 (a:Cx):Prop where
 m:∀c m f,c.au m=some f->findIn a.K (.ref (a.cy c)) "__getattribute__"=some (some (.builtin "object.__getattribute__"))/\findIn a.K (.ref (a.cy c)) "__getattr__"=some none/\
  findIn a.K (.ref (a.cy c)) m.str=some (some (.ref (a.c1 f)))/\typeIn a.K (.ref (a.c1 f))=some (.type "function")/\keepIn a.K (.ref (a.c1 f))=true
section
variable (ok:c7 d)(g:I3 d){rs:List (Str×Nat)}
theorem SF {s:Shared}(I:bk d m Y A s.heap)(r:ag s.heap v p)(h:hR Y p=some k):s.TypeIs v k.T/\∀a,v=.ref a->∃o,s.heap.get? a=some o/\o.dict=none:=by
 induction r using ag.casesOn with
 |str x t e=>have h:=bo h;exact az h ⟨rfl,λa z=>(by injection z)⟩
 |bytes x t e=>have h:=bo h;exact az h ⟨rfl,λa z=>(by injection z)⟩
 |ref a=>
  have h:y8 (Y a)=some k:=h;cases e:Y a with
  |none=>have h:=e▸h;injection h
  |some o=>
   have h:=e▸h;cases o with
   |list y=>
    injection h with h;refine az h ?_
    obtain⟨w,⟨o,c,n,rfl⟩,O⟩:=I.mt.aa _ _ e;exact⟨(aQ _ c rfl),λb z=>by injection z with z;exact az z (aQ _ c rfl)⟩
   |dict q u=>
    injection h with h;refine az h ?_
    rcases I.mt.aa _ _ e with⟨l,⟨o,i,c,f,j,_⟩,_⟩|⟨l,⟨o,i,c,f,j,_⟩,_⟩
    ·exact⟨(aQ _ c f.1),λb z=>by injection z with z;exact az z (aQ _ c f.2.1)⟩
    ·exact⟨(aQ _ c f.1),λb z=>by injection z with z;exact az z (aQ _ c f.2.1)⟩
   |_=>injection h
 |_=>injection h
include ok g in
theorem SG (m:bE){o:Expr}{l:List Expr}(hb:wx o=true)(SH:methodCallForm l.length (backTo i (starEach l j)) []=true)(SI:(I.endLine==i.line)=true)
  (M:(backTo i (starEach l j)).any (·.1)=false) (ho:Ex d x j rs J q o wo) (zP:iQ d x j rs J q l ws):
  Ex d x j rs J q (.Call (.Attribute o m.str I) l [] i) (λw Q X Y=>wo w (λv Y=>mX v Y (λa c fs=>bQ (c.au m) (λf=>(m.kU.all λa=>(eE fs a).isNone)=true/\ws w (λu Y=>d.ht f<J/\aY d q f (.ref a::u) Q X Y) X Y))
   (bQ (hR Y v) (λk=>q=false/\(k.ou m).isSome=true/\ws w (λu C=>hR C v=some k/\hS m v u Q C) X Y))) X Y):=λw Q X Y A D s U h=>by
 rw[arm_eval_Call,IV hb];refine ae (ar.first (ho w _ X Y A D s U h) λv p G δ₁ N iT t r b=>?_);refine ae (il ?_);unfold methodCall;rw[show l.length+([]:List Keyword).length=l.length from rfl,show backToKw i (keywordEach [] j)=[] from rfl,SH];have I4:methodCallPos true o j I i=pure i:=by unfold methodCallPos;simp[SI]
 refine ae (dm ?_);have SJ:∀k,hR G p=some k->(k.ou m).isSome=true->q=false->ws w (λu C=>hR C p=some k/\hS m p u Q C) X G->
   wpAny (model d.prog d.w) A (calleeOf true o j v m.str) (λa s'=>wpAny (model d.prog d.w) A (match a with|(f,first)=>do let SK←methodCallPos true o j I i;callWith SK f first (backTo i (starEach l j)) []) (bN d x Y D s Q) (cD d x Y D s X) s') (cD d x Y D s X) (aa s N iT):=by
  exact λk hk hm hq hz=>Ke (uF.mp hm) λid I5=>dD (SE I5) λpa sl ty=>Ka (SF (s:=aa s N iT) t.ak r hk) λhT L=>getMethod_builtin hT pa sl ty L (ae (cG I4 (Dh (.inl ⟨id,rfl⟩) M (ar.next t (zP i w _ X G A δ₁ _ (U.go t) hz) λu ps bX eW dH dI k₂ y rv H=>ar.cj y (RL (s:=aa s dH dI) ok y.ak H.1 I5 (k₂.dQ t.ak r) rv H.2)))))
 refine Pe b (λa c fs ea ec b=>ff b λf hf b=>?_) λb=>ff b λk ek b=>SJ k ek b.2.1 b.1 b.2.2;rw[ea] at r;have e9:=Qr r;refine B e9 (dD (g.m c m f hf) λm1 m2 qV=>dD qV λm3 m4 m5=>?_);obtain⟨ob,z,n,SM,ng,L,SN,SO,hr⟩:=t.ak.mt.aa a _ ec;have SP:notCls ob=true:=by rcases SN with q|⟨u,q⟩<;>(unfold notCls;exact B q rfl)
 have SQ:shadowIn (some (dictOf z n)) m.str=some false:=by refine((B (rfl:z.toArray.toList=z) (B (hr.Sy b.1) (B hr.IX ?_))):((match z.toArray.toList.find? (λe:DictEntry=>e.key.isStr m.str) with|some e=>some (some e.val)|none=>if z.toArray.toList.any (λe:DictEntry=>e.refKey) then none else some none:Option (Option Value)).map (λv=>v.isSome))=some false);rfl
 refine method_fn (s:=aa s N iT) (jY ok t.ak) ⟨SM,ng,SP,by exact B L SO⟩ m1 m2 m3 m4 SQ (ae (cG I4 (callWith_of (P:=d.K.In) (by refine B M ?_;rfl) (keeps_K m5) ?_)));exact m9 M (ar.next t (zP i w _ X G A δ₁ _ (U.go t) b.2) λu ps bX eW dH dI k₂ y rv H=>⟨jY ok y.ak,ar.cj y (n7 (H.2 A x eW (aa s dH dI) _ (U.ok.I2 H.1) y.ak (.cons (.ref a) rv)))⟩)
end
inductive wB (h:Heap):List (Value×Value)->List (PV×PV)->Prop
 |nil:wB h [] []
 |cons {k v:Value} {p q:PV} {r:List (Value×Value)} {s:List (PV×PV)} (a:ag h k p) (c:ag h v q) (b:wB h r s):wB h ((k,v)::r) ((p,q)::s)
def wC:List (PV×PV)->Bool
 |[]=>true
 |(k,_)::a=>k.CE&&dr k a&&!fw a k&&wC a
theorem SR (h:fw a k=false):fx a k v=a++[(k,v)]:=by unfold fx;refine B h ?_;rfl
theorem SS (l:Bs)(p:PV):PV.beq (.str l) p=PV.beq p (.str l):=by
 cases p with
 |str a=>exact mM.mpr ⟨λh=>bG.mpr (bG.mp h).symm,λh=>bG.mpr (bG.mp h).symm⟩
 |_=>rfl
theorem SU (h:fw s k=false)(a:e∈s):PV.beq e.1 k=false:=by unfold fw at h;have:=List.any_eq_false.mp h e a;simpa using this
theorem SV (a:fw b p=false)(c:PV.beq p (.str l)=false):fw (b++[(PV.str l,v)]) p=false:=by unfold fw at a⊢;refine B List.any_append (B a (B kM (B List.any_nil (?_:(false||(PV.beq (.str l) p||false))=false))));rw[SS,c];rfl
theorem SW {prog:Program}{w:World}{h:Heap}{j:List (Value×Value)}{es:List (PV×PV)}(x:wB h j es):∀{acc:List (Str×Value)} {b:List (PV×PV)},wC es=true->cK mQ h acc b->(∀e∈es,fw b e.1=false)->
  ∃a,Carries (PySem.strKind prog w) j a/\cK mQ h (merged acc a) (b++es):=by
 induction x with
 |nil=>intro acc b O d O;exact aQ [] trivial (by simpa[merged] using d)
 |@cons k v p qv r s y z C A=>
  intro acc b i d f;simp only[wC,Bool.and_eq_true,Bool.not_eq_true'] at i;obtain⟨⟨⟨n,H⟩,q⟩,u⟩:=i;cases p with
  |str l=>refine v9 (C:=λk=>∃a,Carries (PySem.strKind prog w) ((k,v)::r) a/\cK mQ h (merged acc a) (b++(.str l,qv)::s)) y λx t e=>?_;have st:=d.stored HD (HG e) z;rw[SR (f _ (.head _))] at st;obtain⟨a,c,r⟩:=A (acc:=PySem.stored acc x v) u st (λm g=>SV (f m (.tail _ g)) (SU q g));exact aQ ((x,v)::a) (aS (HF (t:=t)) rfl c) (by simpa[merged,List.append_assoc] using r)
  |_=>injection n
section
variable {f:Cx}(ok:c7 f){a:List Env}{d:Env}{rs:List (Str×Nat)}{g:Nat}{q:Bool}
def Dx (f:Cx) (a:List Env) (d:Env) (rs:List (Str×Nat)) (g:Nat) (q:Bool) (b:List (Option Expr)) (h:List Expr) (w:aP->(List (PV×PV)->AH->Prop)->XP->AH->Prop):Prop:=
 (b.all (·.isSome)=true/\b.length=h.length)/\∀(j:Pos) (i:aP) (Q:List (PV×PV)->AH->Prop) (X:XP) (Y:AH) (A:Around) (c:Addr->Addr) (s:Shared),dR f a d rs g q A Y c i s->w i Q X Y->
  wpAny (model f.prog f.w) A (evalPairs (pairTrees b h d j)) (ar f wB a Y c s λe Y=>wC e=true/\Q e Y) (cD f a Y c s X) s
theorem SX (r:Ex f a d rs g q k G)(t:Ex f a d rs g q v I)(l:Dx f a d rs g q u n D):
  Dx f a d rs g q (some k::u) (v::n) (λb Q X Y=>G b (λi Y=>I b (λC Y=>D b (λc Y=>(i.CE&&dr i c&&!fw c i)=true/\Q ((i,C)::c) Y) X Y) X Y) X Y):=
 ⟨⟨by refine B List.all_cons (B l.1.1 ?_);rfl,B e8 (B e8 (B l.1.2 rfl))⟩,λx b Q X Y A δ s U h=>by exact pairTrees_cons_walk (ar.first (r b _ X Y A δ s U h) λva pa cN δ₁ h₁ iT j y N=>ar.next j (t b _ X cN A δ₁ _ (U.go j) N) λvb pb bX eW dH dI w e z Df=>ar.next e (l.2 x b _ X bX A eW _ (U.go e) Df) λn c d8 qU eX eO m p H wy=>dD wy λJ L M=>⟨_,_,_,_,_,rfl,p,.cons (m.dQ e.ak (w.dQ j.ak y)) (m.dQ e.ak z) H,by rw[wC,L,J];rfl,M⟩)⟩
theorem SY (j:Pos):Ex f a d rs g q (.Dict [] [] j) (λO Q O Y=>∀b,bw Y (.dict b []) Q):=λm Q X Y A l s U h=>by refine wpAny_Dict_empty (ar.push (ao:=.dict 0 []) U.I (λc k e=>bS.noConfusion e) (.inl ⟨[],⟨_,#[],eK _ rfl,⟨rfl,rfl,rfl⟩,rfl,λe i=>by simp at i,.nil,List.nodup_nil⟩,.nil⟩) (h 0) s.toks)
theorem S0 (N:Pos)(h0:w≠[])(hlen:w.length<=15)(v:Dx f a d rs g q w vs wd):
  Ex f a d rs g q (.Dict w vs N) (λH Q X Y=>wd H (λn Y=>∀j,bw Y (.dict j n) Q) X Y):=λH Q X Y A δ s U h=>by
 have m:s.heap.get? s.heap.objs.size=none:=fY (dE _);have g0:=Go.ext U.I (λb o e=>cR _ e:fp s.heap (s.heap.push emptyDict));refine dD (qP U.I m) λo1 L M=>wpAny_Dict_walk (knd:=PySem.strKind f.prog f.w) v.1.1 v.1.2 h0 hlen (ar.next (tk₁:=s.toks) g0 (v.2 N H _ X Y A δ (aa s (s.heap.push emptyDict) s.toks) (U.go g0) h) λvs n cN z G iT J C rv l7=>?_);have D:G.get? s.heap.objs.size=some emptyDict:=J.bh.aa _ _ (eK _ rfl) M L;have y:¬bF cN z s.heap.objs.size:=λx=>(J.eM _ x).elim M λl=>by rw[eK _ rfl] at l;injection l
 refine ai (SW (prog:=f.prog) (w:=f.w) rv l7.1 .nil (λO O=>rfl)) λI c r=>⟨I,c,⟨_,#[],0,D,⟨rfl,rfl,rfl⟩,rfl,λe he=>by simp at he,.nil,List.nodup_nil⟩,λp hm k=>?_⟩;have t:cb G p:=mZ k λvs tt=>by refine gk tt λo i ng O=>?_;rw[D] at i;have i:=bo i;subst i;exact absurd ng dc
 have gt:=Go.sZ (h'':=p) U.I C (λb x=>k.2 b λq=>y (q▸x)) (λb o e=>k.2 b λq=>by rw[q,m] at e;injection e) (λb e=>by
  by_cases q:b=s.heap.objs.size
  ·exact B q m
  ·rw[k.2 b q] at e;exact C.bh.bO b e) t
 obtain⟨o,S1,j,i,r1,r2,r3,r4,r5⟩:=hm;exact⟨_,_,z,p,iT+vs.length,rfl,(Go.s7 (δ'':=z) (o:=.dict j n) gt o1 m L y (.inl ⟨merged [] I,⟨o,S1,i,r1,r2,r3,r4,r5⟩,by simpa using r.bU t⟩) (λO O=>rfl) (λc fs e=>bS.noConfusion e)),.ref _,l7.2 j _ (by
  cases u:cN s.heap.objs.size with
  |none=>rfl
  |some o'=>exact absurd (qN u) y)⟩
end
def fN (a:Env) (b:Addr):Prop:=b=a.locals∨∃x,a.cells.lookup x=some b
structure cE (f:Cx)(c:List Env)(g:Env)(Y:AH)(d:Addr->Addr)(h:Heap)(e:AH)(δ':Addr->Addr)(a:Heap):Prop where
 ak:bk f c e δ' a
 bh:dT (λb=>bF Y d b∨fN g b) (cM c) h a
 eM:∀b,bF e δ' b->bF Y d b∨h.get? b=none
 av:cb h a
section
theorem Go.bp (g:Go a b Y c h f e d)(I:bk a b Y c h):cE a b i Y c h f e d:=⟨g.ak,g.bh.Pl λO x=>.inl x,g.eM,I.mt.lX g.bh⟩
theorem cE.refl (I:bk b c Y a h):cE b c d Y a h Y a h:=⟨I,dT.refl ..,λO x=>.inl x,λO O t=>t⟩
theorem cE.trans (a:cE d f e Y j h n k h₁)(b:cE d f e n k h₁ p m i):cE d f e Y j h p m i:=
 ⟨b.ak,a.bh.trans b.bh λc x=>x.elim (λy=>(a.eM c y).imp .inl id) λy=>.inl (.inr y),λc x=>(b.eM c x).elim (a.eM c) λl=>.inr (a.bh.bO c l),λx g t=>b.av x g (a.av x g t)⟩
theorem cE.sZ (I:bk r c Y u h)(g:cE r c l Y u h H A p)(k:∀b,bF H A b->f.get? b=p.get? b)
  (v:∀b o,h.get? b=some o->¬fN l b->b∉cM c->f.get? b=p.get? b) (D:∀b,fN l b->r.base.get? b=none)
  (w:∀b o,p.get? b=some o->b∈cM c->∃i,f.get? b=some i/\(¬fN l b->∃y,i={o with slots:=y})/\((∀j,o.data≠.fields j)->∀j,i.data≠.fields j))
  (G:∀b,f.get? b=none->h.get? b=none) (t:cb p f):cE r c l Y u h H A f:=by
 have K:dT (λb=>bF Y u b∨fN l b) (cM c) h f:=⟨G,λb o e n m=>(v b o e (λx=>n (.inr x)) m).trans (g.bh.aa b o e n m),λb o e n m=>by refine Ke (g.bh.fr b o e n m) λy q=>gk (w b _ q m) λi s J O=>Ke (J λx=>n (.inr x)) λL C=>?_;subst C;exact⟨L,s⟩⟩
 refine⟨⟨λb o e=>?_,Hf g.ak.frames λb o m e=>?_,⟨λa o e=>eT.sY e (λO O O=>rfl) k t (g.ak.mt.aa a o e),g.ak.mt.iB,g.ak.mt.inj⟩,g.ak.de⟩,K,g.eM,λa j x=>t a j (g.av a j x)⟩
 ·have U:b∉cM c:=λm=>by obtain⟨z,O⟩:=m6 g.ak.frames b m;exact nn z e
  exact(v b o (I.hW b o e) (λx=>nn (D b x) e) U).trans (g.ak.hW b o e)
 ·exact gk (w b o e m) λi s O d=>aQ i s d
end
structure df (c:Cx)(d:List Env)(a:Env)(rs:List (Str×Nat)):Prop where
 gL:∃e0 r L,d=e0::r/\e0.frame=some L/\a.frame=some L
 dU:∀b,fN a b->c.base.get? b=none
 inj:∀x y i,rs.lookup x=some i->rs.lookup y=some i->x=y
section
variable {rs:List (Str×Nat)}{r:aP}{h d f:Heap}{E:Value->Shared->Prop}
theorem LR.c0 (l:LR a rs Y c r h)(x:fN a b):h.get? b≠none/\¬bF Y c b:=by
 rcases x with rfl|⟨x,e⟩
 ·exact⟨l.lt,l.s8⟩
 ·exact(l.cells x b e).2
theorem LR.sY (l:LR j rs Y w r h)(k:∀b o,fN j b->h.get? b=some o->∃g,f.get? b=some {o with slots:=g})(t:cb h f):LR j rs Y w r f:=by
 have lt':∀b,fN j b->f.get? b≠none:=λb x e=>(l.c0 x).1 (gu (λo q z=>Ke (k b o x q) λg a=>nn z a) e);refine⟨l.kind,λx i e=>⟨(l.af x i e).1,?_⟩,l.s8,lt' _ (.inl rfl),λx c e=>aS ((l.cells x c e).1) (lt' c (.inr ⟨x,e⟩)) ((l.cells x c e).2.2),l.pK,l.cH,l.blt⟩;exact(l.af x i e).2.pJ (λm p=>iY p λo u s n z=>Ke (k _ _ (.inl rfl) n) λg a=>js _ u s a z)
  (λc v q p=>ai p λo n z=>Ke (k _ _ (.inr ⟨x,q⟩) n) λg a=>aQ _ a z) t
theorem qW (h:i<r.length):(r.set i p).getD j none=if i=j then p else r.getD j none:=by
 simp only[List.getD_eq_getElem?_getD,List.getElem?_set];by_cases e:i=j
 ·subst e;simp[h]
 ·simp[e]
theorem I6 (st:df m p a rs)(G:bk m p Y C h)(g:cE m p a Y C h w v d)(l:LR a rs w v r d)(lc:fN a c)(i:Heap.SameBut c d f)(L:∀u,¬IsTup d c u)(x:f.get? c=some A)(U:∀u,A.data≠.fields u)(J:D.length=r.length)(I:cb d f->∀y j,rs.lookup y=some j->lZ a y (D.getD j none) f):cE m p a Y C h w v f/\LR a rs w v D f/\(∀b,¬fN a b->f.get? b=d.get? b)/\cb d f:=by
 have t:=mZ i L;have H:∀b,¬fN a b->f.get? b=d.get? b:=λb n=>i.2 b λq=>n (q▸lc);have s:∀b,f.get? b=none->d.get? b=none:=λb e=>(i.2 b λq=>nn (q▸e) x).symm.trans e;refine cZ (cE.sZ G g (λb o=>i.2 b λq=>(l.c0 lc).2 (q▸o)) (λb o O n O=>H b n) st.dU (λb o e O=>?_) (λb e=>g.bh.bO b (s b e)) t) ⟨l.kind,λy j e=>⟨J▸(l.af y j e).1,I t y j e⟩,l.s8,λz=>l.lt (s _ z),λy c e=>aS ((l.cells y c e).1) (λz=>(l.cells y c e).2.1 (s c z)) ((l.cells y c e).2.2),l.pK,l.cH,l.blt⟩ H t;by_cases q:b=c
 ·exact gD A (q▸x) (λn=>absurd (q▸lc) n) (λO=>U)
 ·exact gD o ((i.2 b q).trans e) (λO=>⟨o.slots,rfl⟩) (λk=>k)
theorem Ns.same (x:h.Ns a m)(y:h.Ns a n)(z:Str):n z=m z:=by refine Bt x λp c s k b O i=>Bt y λq e t l g O j=>?_;rw[ss k l] at b;exact az (i z) (az (j z) (B ((Data.dict.inj (b.symm.trans g)).1:c=e) rfl))
theorem I7 (st:df g k a rs)(b:rs.lookup x=some i)(c:i<r.length)(k1:cb d f->lZ a x p f)(k2:cb d f->∀y j,y≠x->i≠j->rs.lookup y=some j->lZ a y (r.getD j none) f)(t:cb d f)(y:Str)(j:Nat)(e:rs.lookup y=some j):lZ a y ((r.set i p).getD j none) f:=by
 refine B (qW c) ?_;by_cases q:i=j
 ·exact B (aG q) (B (st.inj y x i (q▸e) b) (k1 t))
 ·exact B (aH q) (k2 t y j (λz=>q (ss (z▸b) e)) q e)
theorem S2 (x:h.Ns a m)(g:Array Value):¬IsTup h a g:=λt=>by refine jr x λo j i c b O=>oY t λk e O n z=>?_;injection (b.symm.trans ((br Obj.data (ss c e)).trans z))
theorem I8 (st:df s v k rs)(L:bk s v Y J h)(g:cE s v k Y J h C H d)(l:LR k rs C H r d)(I:rs.lookup x=some i)(N:k.kindOf x=some .local)(G:d.Ns k.locals m)
  (U:Heap.SameBut k.locals d f) (w:f.Ns k.locals (λy=>if y=x then nv else m y)) (rv:cb d f->kW f nv p):cE s v k Y J h C H f/\LR k rs C H (r.set i p) f/\(∀b,¬fN k b->f.get? b=d.get? b)/\cb d f:=by
 refine jr (id w) λo' es' wD oC M O=>?_;exact I6 st L g l (.inl rfl) U (S2 G) oC (λO z=>nomatch M.symm.trans z) o6
  (I7 st I (l.af x i I).1 (λt=>.dU N _ w (B (aG rfl) (rv t))) λt y j n q e=>by
   cases(l.af y j e).2 with
   |dU a m2 Q A=>exact .dU a _ w (by rw[aH n,←Ns.same G Q];exact A.bU t)
   |cell a c u D hu A=>exact ai hu λo ho z=>.cell a c u D (aQ o ((U.2 c (l.cells y c D).1).trans ho) z) (A.bU t))
theorem wF (st:df w envs k rs)(I0:bk w envs Y δ h)(g:cE w envs k Y δ h cN δ₁ s.heap)(l:LR k rs cN δ₁ r s.heap)(hx:rs.lookup x=some i)(G:k.kindOf x=some .local∨k.kindOf x=some .cell)(rv:ag s.heap v p)(hQ:∀f tk,cE w envs k Y δ h cN δ₁ f->LR k rs cN δ₁ (r.set i (some p)) f->(∀b,¬fN k b->f.get? b=s.heap.get? b)->(cb s.heap f)->Q () (aa s f tk)):
  wpAny (model w.prog w.w) A (storeName k x v) Q E s:=by
 refine Ka (l.af x i hx) λhi hv=>?_;have new:∀{f},cb s.heap f->kW f (some v) (some p):=λt u e=>aQ v rfl (bo e▸ag.bU t rv);cases hv with
 |dU zQ m hm O=>refine yo zQ hm (λf U D=>?_) (by refine B l.kind ?_;rfl);exact lz (I8 st I0 g l hx zQ hm D U new) λJ L M N=>hQ f _ J L M N
 |cell I9 c u H I O=>
  refine wpAny_storeName_cell l.kind (G.elim (λG=>I9.elim (λz=>(by injection (ss G z))) λz=>(by injection (ss G z))) id) H I (λf U D=>ai I λo C hd=>ai (id U) λo' oC S3=>lz (I6 st I0 g l (.inr ⟨x,H⟩) D (λvs t=>by
   refine oY t λo' oC O n z=>?_;injection (hd.symm.trans ((br Obj.data (ss C oC)).trans z))) oC (λO z=>(by injection (S3.symm.trans z))) o6
   (I7 st hx hi (λt=>.cell I9 c _ H U (new t)) λt y j n q e=>by
    cases(l.af y j e).2 with
    |dU a m2 Dg r2=>exact iY Dg λo es ep C z=>.dU a _ (js o es ep ((D.2 _ λz=>(l.cells x c H).1 z.symm).trans C) z) (r2.bU t)
    |cell a c2 u Ja I r2=>exact ai I λo C z=>.cell a c2 u Ja (aQ o ((D.2 c2 λz=>n (l.pK y c x (z▸Ja) H)).trans C) z) (r2.bU t))) λJ L M N=>?_)
  exact hQ f _ J L M N
end
inductive jD (h:Heap):Flow->Fl->Prop
 |next:jD h .next .next
 |brk:jD h .brk .brk
 |cont:jD h .cont .cont
 |ret {v:Value} {p:PV} (r:ag h v p):jD h (.ret v) (.ret p)
section
variable (h:Cx)(b:List Env)(d:Env)(rs:List (Str×Nat))(i:Nat)(q:Bool)
inductive tj (Y:AH)(n:Addr->Addr)(s:Shared)(K:aP->AH->Prop)(k:Shared):Prop
 |mk (j:aP) (c:AH) (f:Addr->Addr) (a:Heap) (m:Nat) (e:k=aa s a m) (g:cE h b d Y n s.heap c f a) (l:LR d rs c f j a) (z:K j c)
inductive cB (Y:AH)(t:Addr->Addr)(s:Shared)(Q:Fl->aP->AH->Prop)(f:Flow)(n:Shared):Prop
 |mk (j:Fl) (m:aP) (c:AH) (k:Addr->Addr) (a:Heap) (p:Nat) (e:n=aa s a p) (g:cE h b d Y t s.heap c k a) (l:LR d rs c k m a) (r:jD a f j) (z:Q j m c)
inductive dW (Y:AH)(u:Addr->Addr)(s:Shared)(X:XR)(e:Value)(p:Shared):Prop
 |mk (a:Addr) (c:Cl) (t:PV) (n:aP) (k:AH) (m:Addr->Addr) (j:Heap) (r:Nat) (e1:e=.ref a) (e2:p=aa s j r) (g:cE h b d Y u s.heap k m j) (l:LR d rs k m n j) (f:gK h s.heap k m j a c t) (z:X c t n k)
def jE (t:Expr) (w:WT):Prop:=
 ∀(v:Value) (p:PV) (c:aP) (K:aP->AH->Prop) (X:XP) (Y:AH) (A:Around) (a:Addr->Addr) (s:Shared),dR h b d rs i q A Y a c s->ag s.heap v p->w p c K X Y->
  wpAny (model h.prog h.w) A (assign t d v) (λO e=>tj h b d rs Y a s K e) (cD h b Y a s X) s
def Sx (t:Stmt) (w:WS):Prop:=
 ∀(c:aP) (Q:Fl->aP->AH->Prop) (X:XR) (Y:AH) (A:Around) (a:Addr->Addr) (s:Shared),dR h b d rs i q A Y a c s->w c Q X Y->
  wpAny (model h.prog h.w) A (exec t d) (cB h b d rs Y a s Q) (dW h b d rs Y a s X) s
def fy (t:List Stmt) (w:WS):Prop:=
 ∀(c:aP) (Q:Fl->aP->AH->Prop) (X:XR) (Y:AH) (A:Around) (a:Addr->Addr) (s:Shared),dR h b d rs i q A Y a c s->w c Q X Y->
  wpAny (model h.prog h.w) A (execs t d) (cB h b d rs Y a s Q) (dW h b d rs Y a s X) s
end
section
variable {rs:List (Str×Nat)}
theorem tj.b9 {K:aP->AH->Prop}(g:cE a c b Y i s.heap p k f)(x:tj a c b rs p k (aa s f q) K h):tj a c b rs Y i s K h:=by obtain⟨m,n,j,e,tk,rfl,d,l,z⟩:=x;exact⟨m,n,j,e,tk,rfl,g.trans d,l,z⟩
theorem cB.b9 (g:cE a c b Y m s.heap u p j)(x:cB a c b rs u p (aa s j tk₁) Q f k):cB a c b rs Y m s Q f k:=by obtain⟨e,q,t,n,i,tk,d,h,l,r,z⟩:=x;refine B d ?_;exact⟨e,q,t,n,i,tk,rfl,g.trans h,l,r,z⟩
theorem dW.b9 (g:cE b h d Y q s.heap y u n)(x:dW b h d rs y u (aa s n A) X e p):dW b h d rs Y q s X e p:=by obtain⟨a,c,t,v,w,r,m,tk,i,j,k,l,f,z⟩:=x;refine B i ?_;refine B j ?_;exact⟨a,c,t,v,w,r,m,tk,rfl,rfl,g.trans k,l,f.zi g.bh.bO,z⟩
theorem cD.bp (l:LR m rs Y b i s.heap)(I:bk d h Y b s.heap)(x:cD d h Y b s (λc t=>X c t i) e p):dW d h m rs Y b s X e p:=by obtain⟨a,c,t,r,q,n,tk,j,k,g,f,z⟩:=x;refine B j ?_;refine B k ?_;exact⟨a,c,t,i,r,q,n,tk,rfl,rfl,g.bp I,l.go I g,f,z⟩
theorem cD.none {P:Prop}(x:cD a b Y d s (λO O O=>False) e c):P:=by obtain⟨O,O,O,O,O,O,O,O,O,O,O,z⟩:=x;exact z.elim
theorem dR.oD (U:dR b c a rs h q A Y j m s)(g:cE b c a Y j s.heap f e d)(l:LR a rs f e k d)(i:Nat):dR b c a rs h q A f e k (aa s d i):=⟨U.ok,g.ak,l⟩
theorem l8 (U:dR a e l rs u q A Y f m s)(h:wpAny (model a.prog a.w) A t (ar a R e Y f s P) (cD a e Y f s (λc t=>X c t m)) s)
  (k:∀v p d i b j,Go a e Y f s.heap d i b->LR l rs d i m b->R b v p->P p d->Ψ v (aa s b j)):wpAny (model a.prog a.w) A t Ψ (dW a e l rs Y f s X) s:=by
 refine bM h (λv w x=>?_) λO O x=>x.bp U.l U.I;obtain⟨p,d,i,b,j,n,g,r,z⟩:=x;refine B n ?_;exact k v p d i b j g (U.l.go U.I g) r z
theorem cB.cj (g:cE a c b Y e s.heap i f d)(h:wpAny (model a.prog a.w) A t (cB a c b rs i f (aa s d tk₁) Q) (dW a c b rs i f (aa s d tk₁) X) (aa s d tk₁)):
  wpAny (model a.prog a.w) A t (cB a c b rs Y e s Q) (dW a c b rs Y e s X) (aa s d tk₁):=bM h (λO O x=>x.b9 g) λO O x=>x.b9 g
theorem cB.now (g:cE i j c Y k s.heap b e a)(l:LR c rs b e h a)(r:jD a f d)(z:Q d h b):cB i j c rs Y k s Q f (aa s a tk₁):=⟨d,h,b,e,a,tk₁,rfl,g,l,r,z⟩
theorem Dj:fy b d c rs e q [] (λa Q O Y=>Q .next a Y):=λa Q X Y A f s U h=>wpAny_execs_nil (cB.now (tk₁:=s.toks) (cE.refl U.I) U.l .next h)
theorem tm (k:Sx b d c rs e q t w)(j:fy b d c rs e q r n):
  fy b d c rs e q (t::r) (λa Q X Y=>w a (λf a Y=>match f with|.next=>n a Q X Y|f=>Q f a Y) X Y):=λa Q X Y A p s U h=>by
 refine wpAny_execs_cons (bM (k a _ X Y A p s U h) (λf D x=>?_) λO O x=>x);obtain⟨H,v,y,u,C,m,i,g,l,r,z⟩:=x;refine B i ?_
 induction r using jD.casesOn with
 |next=>exact cB.cj g (j v Q X y A u _ (U.oD g l m) z)
 |brk=>exact cB.now g l .brk z
 |cont=>exact cB.now g l .cont z
 |ret r=>exact cB.now g l (.ret r) z
theorem S4 (k:Pos)(j:Ex b f d rs i q e w):Sx b f d rs i q (.Return (some e) k) (λa Q X Y=>w a (λv Y=>Q (.ret v) a Y) (λc t=>X c t a) Y):=λa Q X Y A m s U h=>wpAny_Return_some (l8 U (j a _ _ Y A m s U h) λv p y x n u g l r z=>cB.now (g.bp U.I) l (.ret r) z)
theorem S5 (y:Pos)(x:Tx e i f rs j q c D)(u:fy e i f rs j q a H)(w:fy e i f rs j q b C):
  Sx e i f rs j q (.If c a b y) (λd Q X Y=>D d (λt Y=>if t then H d Q X Y else C d Q X Y) (λc t=>X c t d) Y):=λd Q X Y A G s U h=>by
 refine wpAny_If (l8 U (x d _ _ Y A G s U h) λv p n m I k g l r z=>?_);have r:v=p:=r;subst r;cases v
 ·exact cB.cj (g.bp U.I) (w d Q X n A m _ (U.oD (g.bp U.I) l k) z)
 ·exact cB.cj (g.bp U.I) (u d Q X n A m _ (U.oD (g.bp U.I) l k) z)
theorem S6 (d:Pos)(m:swapsWith e none d.line b=pure false)(k:Ex f i b rs j q e w):Sx f i b rs j q (.Expr e d) (λa Q X Y=>w a (λO Y=>Q .next a Y) (λc t=>X c t a) Y):=λa Q X Y A n s U h=>by refine wpAny_Expr_any (l8 U (k a _ _ Y A n s U h) λv p H y u x g l r z=>cB.now (g.bp U.I) l .next z) (by unfold interactive;refine B U.l.kind ?_;rfl) m
theorem S7 (st:df c d a rs)(j:Pos)(f:rs.lookup x=some i)(e:a.kindOf x=some .local∨a.kindOf x=some .cell):jE c d a rs m q (.Name x j) (λv b K O Y=>i<b.length/\K (b.set i (some v)) Y):=λv p b K X Y A t s U r h=>by refine uS (wF st U.I (cE.refl U.I) U.l f e r λk n g l O O=>⟨_,_,_,_,_,rfl,g,l,h.2⟩)
theorem zR.zS {K:aP->AH->Prop}(l:LR f rs Y b e s.heap)(I:bk c d Y b s.heap)(x:ar c RU d Y b s P u i)(k:∀a,P () a->K e a):tj c d f rs Y b s K i:=by obtain⟨O,a,m,h,j,rfl,g,O,z⟩:=x;exact⟨e,a,m,h,j,rfl,g.bp I,l.go I g,k a z⟩
theorem S8 (ok:c7 f)(i:wq f)(a:At)(u:Pos)(n:Ex f k j rs m q e w):jE f k j rs m q (.Attribute e a.str u) (λv d K X Y=>w d (λo Y=>o.d7 (λx=>hO (λc g=>(c.fM a=true/\g.length<=50)/\K d (Y.set x (.bc c (jc g a v)))) False (Y x)) False) X Y):=λv p d K X Y A D s U r h=>by rw[arm_assign_Attribute];exact ae (dm (ar.first (n d _ X Y A D s U h) λov G L J t C b H z=>ae (il (ae (dm (jd H z λx z=>y9 z λc g l z=>bM (I1 (s:=aa s t C) (E:=λO O=>False) (K:=K d) ok i b.ak l z.1.1 z.1.2 (b.dQ U.I r) z.2) (λO I x=>wpAny_release ((zR.zS (U.l.go U.I b) b.ak x λO y=>y).b9 (b.bp U.I))) λO O x=>x.elim))))))
theorem S9 (ok:c7 c)(G:Pos)(Jb:∀l u t p,k≠.Slice l u t p)(z:Ex c j i rs m q e w)(H:Ex c j i rs m q k M):jE c j i rs m q (.Subscript e k G) (λv a K X Y=>
   w a (λo Y=>M a (λn Y=>o.d7 (λd=>qL Y d n v (K a)) False) X Y) X Y):=λv p a K X Y A Q s U r h=>by
 rw[arm_assign_Subscript];refine ae (dm (ar.first (z a _ X Y A Q s U h) λov op cN δ₁ h₁ iT f J N=>?_));refine ae (dm (ar.next f (H a _ X cN A δ₁ _ (U.go f) N) λn kp bX eW C L D b I g=>?_));refine ae (il (ae (dm ?_)));exact jd (D.dQ f.ak J) g λd g=>bM (It (s:=aa s C L) (E:=λO O=>False) (K:=K a) b.ak I (b.dQ U.I r) g) (λO s' x=>by exact wpAny_release ((zR.zS (U.l.go U.I b) b.ak x λO y=>y).b9 (b.bp U.I))) λO O x=>x.elim
end
abbrev Ta:=List PV->aP->(aP->AH->Prop)->XP->AH->Prop
section
variable (c:Cx)(a:List Env)(b:Env)(rs:List (Str×Nat))(d:Nat)(q:Bool)
def wG (j:List Expr) (w:Ta):Prop:=
 ∀(f:List Value) (e:List PV) (h:aP) (K:aP->AH->Prop) (Y:AH) (A:Around) (g:Addr->Addr) (s:Shared) (E:Value->Shared->Prop),dR c a b rs d q A Y g h s->aJ s.heap f e->w e h K (λO O O=>False) Y->
  wpAny (model c.prog c.w) A (assignInOrder ((assignEach j b).map (·.2)) f) (λO i=>tj c a b rs Y g s K i) E s
end
section
variable {rs:List (Str×Nat)}{s:Shared}{f n:aP}
theorem Tb:wG c e d rs g q [] (λa f K O Y=>a=[]/\K f Y):=λi a f K Y A b s E U r h=>by obtain⟨rfl,h⟩:=h;cases r;exact yj ⟨f,Y,b,s.heap,s.toks,rfl,cE.refl U.I,U.l,h⟩
theorem Dk (h:∀x p,e≠.Starred x p)(b:List Expr)(a:Env):assignEach (e::b) a=(false,assign e a)::assignEach b a:=by cases e<;>first|rfl|exact absurd rfl (h _ _)
theorem Tc (u:∀x p,t≠.Starred x p)(v:jE a c b rs d q t w)(y:wG a c b rs d q C D):
  wG a c b rs d q (t::C) (λe f K X Y=>∃p r,e=p::r/\w p f (λf Y=>D r f K X Y) X Y):=λQ e f K Y A G s E U r h=>by
 obtain⟨p,M,rfl,h⟩:=h;cases r with|cons H m=>
 rw[Dk u,c3];refine yk (bM (v _ _ f _ _ Y A G s U H h) (λO N x=>?_) λO O x=>x.none);obtain⟨J,L,I,k,i,j,g,l,z⟩:=x;refine B j ?_;exact bM (y _ _ J K L A I (aa s k i) E (U.oD g l i) (aJ.bU g.av m) z) (λO O x=>x.b9 g) λO O x=>x
theorem Jc (h:∀t∈a,∀x p,t≠.Starred x p)(b:Env):(assignEach a b).findIdx? (·.1)=none/\(assignEach a b).length=a.length:=by
 induction a with
 |nil=>exact⟨rfl,rfl⟩
 |cons t r e=>refine Ka (e λt m=>h t (cn _ m)) λc d=>?_;rw[Dk (h t bP)];exact⟨by refine B (List.findIdx?_cons) (B c ?_);rfl,B e8 (B d (B e8 rfl))⟩
theorem Dl (I:bk c d Y a s.heap)(k:Heap.ExtBut s.heap.objs.size s.heap g):Go c d Y a s.heap Y a g:=Go.ext I λb o e=>k b o (Nat.ne_of_lt (Heap.lt_size e)) e
theorem Td (G:Nat)(H:Pos)(i:∀t∈d,∀x p,t≠.Starred x p)(z:wG j l c rs u q d D):
  jE j l c rs u q (.Tuple d G H) (λv f K O Y=>q=false/\v.jW (λb=>d.length=b.length/\D b f K (λO O O=>False) Y) False):=λv p f K X Y A I s U r h=>by
 obtain⟨w,h⟩:=h;refine zk r h λa C b y e h=>wpAny_assign_Tuple (U.ok.quiet w) y ((Jc i c).2.trans (h.1.trans (B ei (B e.length rfl)))) (Jc i c).1 λm k=>?_;have g:=Dl U.I k;exact bM (z C b f K Y A I (aa s m s.toks) _ (U.go g) (g.Pp U.I e) h.2) (λO O x=>x.b9 (g.bp U.I)) λO O x=>x
theorem Dm {wt:WT}(j:Pos)(C:∀x p,t≠.Starred x p)(H:swapsWith e (some t) j.line a=pure false)(G:swappedStores [t] e a=pure none)
  (D:jE b d a rs i q t wt) (y:Ex b d a rs i q e w):Sx b d a rs i q (.Assign [t] e j) (λf Q X Y=>w f (λv Y=>wt v f (λf Y=>Q .next f Y) (λc t=>X c t f) Y) (λc t=>X c t f) Y):=λf Q X Y A M s U h=>by
 refine wpAny_Assign_stores (l8 U (y f _ _ Y A M s U h) λv p σ' N u J g l r z=>?_) H G;rw[Dk C];refine(?_:wpAny _ A (assign t a v) _ _ _);refine bM (D v p f _ _ σ' A N (aa s u J) (U.go g) r z) (λO s' x=>?_) λO O x=>(x.bp l g.ak).b9 (g.bp U.I);obtain⟨Te,bX,eW,dH,dI,k,m,I,L⟩:=x;refine B k ?_;exact cB.now ((g.bp U.I).trans m) I .next L
theorem Jd {T e:Expr}(D:swapsWith e (some T) y.line a=pure false)(G:swappedStores [T] e a=pure (some I))(U:dR b d a rs H q A Y j f s)(C:Ex b d a rs H q e w)(h:w f R (λc t=>X c t f) Y)
  (k:∀v p m u i x,Go b d Y j s.heap m u i->LR a rs m u f i->ag i v p->R p m->wpAny (model b.prog b.w) A (assignStores a v (some I) ((assignEach [T] a).map (·.2))) (cB b d a rs Y j s Q) (dW b d a rs Y j s X) (aa s i x)):
  wpAny (model b.prog b.w) A (exec (.Assign [T] e y) a) (cB b d a rs Y j s Q) (dW b d a rs Y j s X) s:=by
 rw[exec_Assign_arm];exact ae (il (B (show swapsWithSole [T] e y.line a=pure false from D) (ae (aU (B (aH dc) (ae (l8 U (C f _ _ Y A j s U h) λv p m u i x g l r z=>B G (ae (aU (k v p m u i x g l r z))))))))))
theorem wH (st:df a d b rs)(u:bk a d Y r h)(g:cE a d b Y r h q m s.heap)(l:LR b rs q m f s.heap)(y:rs.lookup x=some i)(z:b.kindOf x=some .local)(C:ag s.heap v p){E:Value->Shared->Prop}
  (k:∀c j,cE a d b Y r h q m c->LR b rs q m (f.set i (some p)) c->cb s.heap c->wpAny (model a.prog a.w) A (assignInOrder ns D) (λO e=>wpAny (model a.prog a.w) A (pure Flow.next) Q E e) E (aa s c j)):
  wpAny (model a.prog a.w) A (assignInOrder (bindName b x::ns) (v::D)) (λO e=>wpAny (model a.prog a.w) A (pure Flow.next) Q E e) E s:=
 yk (wpAny_bindName (wF st u g l y (.inl z) C λc j w H O t=>k c j w H t))
inductive Tf (h:Heap)(v:Value)(a b:PV):Prop
 |mk (t:Addr) (va vb:Value) (e:v=.ref t) (c:IsTup h t #[va,vb]) (d:ag h va a) (g:ag h vb b)
inductive Th (h:Heap)(v:Value)(a b d:PV):Prop
 |mk (t:Addr) (va vb c:Value) (e:v=.ref t) (g:IsTup h t #[va,vb,c]) (i:ag h va a) (j:ag h vb b) (k:ag h c d)
theorem ag.Ti (r:ag h v (.av [a,b])):Tf h v a b:=by obtain⟨t,k,e,c,r⟩:=r.un;obtain⟨va,i,e1,d,r⟩:=r.un;obtain⟨vb,j,e2,g,r⟩:=r.un;rw[e1,e2,r.vm] at c;exact⟨t,va,vb,e,c,d,g⟩
theorem ag.Tj (r:ag h v (.av [a,b,d])):Th h v a b d:=by obtain⟨t,u,e,c,r⟩:=r.un;obtain⟨va,m,e1,i,r⟩:=r.un;obtain⟨vb,p,e2,j,r⟩:=r.un;obtain⟨l,q,g,k,r⟩:=r.un;rw[e1,e2,g,r.vm] at c;exact⟨t,va,vb,l,e,c,i,j,k⟩
theorem Tn (st:df u H d rs)(hs:swapsWith e (some (.Tuple [.Name x D,.Name y I] k J)) pos.line d=pure false)
  (hw:swappedStores [.Tuple [.Name x D,.Name y I] k J] e d=pure (some [x,y])) (hx:rs.lookup x=some i) (hy:rs.lookup y=some j) (kx:d.kindOf x=some .local) (ky:d.kindOf y=some .local) (wI:i≠j) (he:Ex u H d rs hc q e w):
  Sx u H d rs hc q (.Assign [.Tuple [.Name x D,.Name y I] k J] e pos) (λf Q X Y=>w f (λv Y=>q=false/\∃a b,v=.av [a,b]/\Q .next ((f.set i (some a)).set j (some b)) Y) (λc t=>X c t f) Y):=λf Q X Y A δ s U h=>
 Jd hs hw U he h λv p σ' δ' h' L g l r z=>by refine Br z λhq a b e z=>?_;obtain⟨t,va,vb,e,ht,ra,rb⟩:=(e▸r).Ti;refine B e (ae (mO (ae (wpAny_unpackItems_tuple (A:=A) (items:=#[va,vb]) (U.ok.quiet hq) ht λdH k₂=>?_))));have m:=Dl (s:=aa s h' L) g.ak k₂;have G:=g.trans m;refine ae (wH (s:=aa s dH L) st U.I (G.bp U.I) (U.l.go U.I G) hy ky (m.dQ g.ak rb) λeX eO M oE t3=>wH (s:=aa s eX eO) st U.I M oE hx kx (ag.bU t3 (m.dQ g.ak ra)) λiD qX N C O=>?_);rw[List.set_comm _ _ (jT wI)] at C;exact yj (aU (cB.now (s:=s) N C .next z))
theorem To (c:i≠j)(e:i≠m)(g:j≠m):((f.set m d).set j b).set i a=((f.set i a).set j b).set m d:=by exact B (List.set_comm d b g.symm) (B (List.set_comm d a e.symm) (B (List.set_comm b a c.symm) rfl))
theorem Tp (st:df D I H rs)(hs:swapsWith e (some (.Tuple [.Name x L,.Name y M,.Name u N] k p3)) pos.line H=pure false)
  (hw:swappedStores [.Tuple [.Name x L,.Name y M,.Name u N] k p3] e H=pure (some [x,y,u])) (hx:rs.lookup x=some i) (hy:rs.lookup y=some j) (hu:rs.lookup u=some m) (kx:H.kindOf x=some .local) (ky:H.kindOf y=some .local) (ku:H.kindOf u=some .local)
  (wI:i≠j) (Tq:i≠m) (Tr:j≠m) (he:Ex D I H rs hc q e w):
  Sx D I H rs hc q (.Assign [.Tuple [.Name x L,.Name y M,.Name u N] k p3] e pos) (λf Q X Y=>w f (λv Y=>q=false/\∃a b d,v=.av [a,b,d]/\Q .next (((f.set i (some a)).set j (some b)).set m (some d)) Y) (λc t=>X c t f) Y):=λf Q X Y A δ s U h=>
 Jd hs hw U he h λv p σ' δ' h' tk g l r z=>by refine Bq z λhq a qV=>fj qV λb d e z=>?_;obtain⟨t,va,vb,vd,e,ht,ra,rb,rd⟩:=(e▸r).Tj;refine B e (ae (mO (ae (wpAny_unpackItems_tuple (A:=A) (items:=#[va,vb,vd]) (U.ok.quiet hq) ht λdH k₂=>?_))));have C:=Dl (s:=aa s h' tk) g.ak k₂;have G:=g.trans C;refine ae (wH (s:=aa s dH tk) st U.I (G.bp U.I) (U.l.go U.I G) hu ku (C.dQ g.ak rd) λeX eO qY oE t3=>wH (s:=aa s eX eO) st U.I qY oE hy ky (ag.bU t3 (C.dQ g.ak rb)) λiD qX Tt Tu t4=>wH (s:=aa s iD qX) st U.I Tt Tu hx kx (ag.bU t4 (ag.bU t3 (C.dQ g.ak ra))) λk7 nh tu J O=>?_);rw[To wI Tq Tr] at J;exact yj (aU (cB.now (s:=s) tu J .next z))
theorem Dn (I:bk c k Y m s.heap)(o:hJ)(e:ag s.heap a u)(g:ag s.heap b v)(h:qM o u v=some r){E:Value->Shared->Prop}(d:Q r Y):
  wpAny (model c.prog c.w) A (inplaceOp o.op a b) (bN c k Y m s Q) E s:=by
 cases o with
 |add=>exact pL I e g h λi t j l h=>by have h:=bo h;subst h;exact PyProof.Rows.iadd_int (ar.now I (.int _ _) d _)
 |sub=>exact pL I e g h λi t j l h=>by have h:=bo h;subst h;exact PyProof.Rows.isub_int (ar.now I (.int _ _) d _)
 |_=>injection h
theorem Tv (st:df b j a rs)(o:hJ)(p1 pos:Pos)(C:rs.lookup x=some i)(hk:a.kindOf x=some .local∨a.kindOf x=some .cell)(he:Ex b j a rs hc q e w):
  Sx b j a rs hc q (.AugAssign (.Name x p1) o.op e pos) (λf Q X Y=>lT f i (λu=>w f (λv Y=>bQ (qM o u v) (λr=>Q .next (f.set i (some r)) Y)) (λc t=>X c t f) Y)):=λf Q X Y A δ s U h=>by
 refine G1 h λu N h=>?_;have hg:f.getD i none=some u:=by refine B (o3) (B N ?_);rfl
 have load:∀{P:Value->Shared->Prop} {E:Value->Shared->Prop},(∀v,ag s.heap v u->P v s)->wpAny (model b.prog b.w) A (loadName a x) P E s:=λ{P E} k=>by
  refine Ka (U.l.af x i C) λO H=>?_;rw[hg] at H;rcases H with⟨zQ,m,hm,r⟩|⟨d,c,u',ng,y,r⟩
  ·exact ai (r u rfl) λv e r=>yu U.l.kind zQ hm e (k v r)
  ·refine ai (r u rfl) λv ev rr=>?_
   have d:a.kindOf x=some .cell:=by
    rcases hk with hk|hk
    ·rcases d with z|z<;>(rw[z] at hk;cases hk)
    ·exact hk
   rw[ev] at y;exact wpAny_loadName_cell U.l.kind d ng y (k v rr)
 refine wpAny_AugAssign_Name (load λv0 r0=>l8 U (he f _ _ Y A δ s U h) λv p σ' δ' h' tk g l r z=>ff z λD M z=>bM (Dn (s:=aa s h' tk) (E:=λO O=>False) (Q:=λp' I=>p'=D/\Q .next (f.set i (some D)) I) g.ak o (g.dQ U.I r0) r M ⟨rfl,z⟩) (λv2 s2 x2=>?_) λO O z=>z.elim);obtain⟨p2,I,eW,dH,dI,J,iE,r2,L,z2⟩:=x2;subst L;refine B J ?_;have G:=g.trans iE;exact wF (s:=aa s dH dI) st U.I (G.bp U.I) (U.l.go U.I G) C hk r2 λeX eO qY oE O O=>cB.now (s:=s) qY oE .next z2
theorem Tw (ok:c7 d)(ck:wq d)(a:At)(o:hJ)(p1 pos:Pos)(hb:Ex d H m rs N q b wb)(he:Ex d H m rs N q e w):
  Sx d H m rs N q (.AugAssign (.Attribute b a.str p1) o.op e pos) (λf Q X Y=>wb f (λw' Y=>w'.d7 (λx=>hO (λc C=>bQ (eE C a) (λu=>c.fM a=true/\w f (λv Y=>bQ (qM o u v) (λr=>
   hO (λc C=>(c.fM a=true/\C.length<=50)/\Q .next f (Y.set x (.bc c (jc C a r)))) False (Y x))) (λc t=>X c t f) Y)) False (Y x)) False) (λc t=>X c t f) Y):=λf Q X Y A δ s U h=>by
 refine wpAny_AugAssign_AttributeAny (l8 U (hb f _ _ Y A δ s U h) λov op I D j k g Tz Dp i=>?_);refine jd Dp i λx i=>y9 i λc C ex i=>ff i λu hu i=>?_;refine IZ (s:=aa s j k) ok ck g.ak ex i.1 hu λv0 r0=>?_;have J:dR d H m rs N q A I D f (aa s j (k+1)):=U.go g;refine bM (l8 (s:=aa s j (k+1)) (Ψ:=λv s'=>wpAny (model d.prog d.w) A (inplaceOp o.op v0 v) (λnew s4=>wpAny (model d.prog d.w) A (setAttr (.ref x) a.str new) (λO=>cB d H m rs I D (aa s j (k+1)) Q .next) (dW d H m rs I D (aa s j (k+1)) X) s4) (dW d H m rs I D (aa s j (k+1)) X) s')
  J (he f _ _ I A D _ J i.2) λv p bX eW dH dI L pR zT l=>ff l λr' er l=>y9 l λc' fs' ec l=>bM (Dn (s:=aa s dH dI) (E:=λO O=>False) (Q:=λp' d8=>p'=r'/\d8=bX) L.ak o (L.dQ g.ak r0) zT er ⟨rfl,rfl⟩) (λv2 s2 x2=>?_) λO O z=>z.elim) (λv s' x=>bM x (λO O y=>bM y (λO O y=>y.b9 (g.bp U.I)) λO O y=>y.b9 (g.bp U.I)) λO O y=>y.b9 (g.bp U.I)) λO O y=>y.b9 (g.bp U.I)
 obtain⟨p2,d8,qU,eX,eO,rfl,M,r2,rfl,rfl⟩:=x2;have G:=L.trans M;exact bM (I1 (s:=aa s eX eO) (E:=λO O=>False) (K:=λY=>Q .next f Y) ok ck M.ak ec l.1.1 l.1.2 r2 l.2) (λO s' x=>by obtain⟨fO,σ',δ',h',tk,jZ,g',l',z'⟩:=(zR.zS (K:=λfO Y=>fO=f/\Q .next f Y) (J.l.go g.ak G) M.ak x λO y=>⟨rfl,y⟩);refine B jZ ?_;obtain⟨rfl,z'⟩:=z';exact cB.now (s:=aa s j (k+1)) ((G.bp g.ak).trans g') l' .next z') λO O x=>x.elim
end
structure nj (a:Addr)(Ts:Addr->Prop)(d:List Addr)(h c:Heap):Prop where
 bO:∀b,c.get? b=none->h.get? b=none
 same:∀b o,h.get? b=some o->b≠a->¬Ts b->b∉d->c.get? b=some o
 fr:∀b o,h.get? b=some o->b≠a->¬Ts b->∃e,c.get? b=some {o with slots:=e}
theorem nj.refl (a:Addr)(Ts:Addr->Prop)(b:List Addr)(h:Heap):nj a Ts b h h:=⟨λO e=>e,λO O e O O O=>e,λO o e O O=>⟨o.slots,e⟩⟩
theorem nj.trans {Ts:Addr->Prop}(x:nj a Ts c h h₁)(y:nj a Ts c h₁ d):nj a Ts c h d:=
 ⟨λb e=>x.bO b (y.bO b e),λb o e n m k=>y.same b o (x.same b o e n m k) n m k,λb o e n m=>by exact Ke (x.fr b o e n m) λg e1=>Ke (y.fr b _ e1 n m) λf e2=>⟨f,e2⟩⟩
section
variable {E:Value->Shared->Prop}
theorem TA {b e0:Env}(f:A.frames=some (e0::a))(g:s.heap.FunFrames base (e0::a))(d:e0.frame=some L)(e:b.frame=some L)
  (h:∀c,Heap.SlotsOnly (cM (e0::a)) s.heap c->Q (.ref L) {s with heap:=c}):wpAny M A (PySem.frameOf b) Q E s:=by
 unfold PySem.frameOf;exact ae (wpAny_frameEnvs f (B (by simp[List.dropWhile,d,e]:((e0::a).dropWhile λx=>x.frame !=b.frame)=e0::a) (wpAny_bind (wpAny_bind (wpAny_readyFrames_fun g λj i=>wpAny_pure (B d (wpAny_pure (h j i))))))))
theorem Dq {Ts:Addr->Prop}(l:h.get? b=some o)(k:o.data=.fields p)(j:b=a∨Ts b):nj a Ts fs h (h.update b (Obj.mapFields (·.setIfInBounds i x)))/\
  (h.update b (Obj.mapFields (·.setIfInBounds i x))).get? b=some (Obj.mapFields (·.setIfInBounds i x) o):=by
 have d:=uK (Obj.mapFields (·.setIfInBounds i x)) l (Obj.isFreed_of_fields (Obj.data_mapFields k _));have g:∀c,c≠a->¬Ts c->(h.update b (Obj.mapFields (·.setIfInBounds i x))).get? c=h.get? c:=λc n m=>lE _ _ (λq=>j.elim (λz=>n (q▸z)) λz=>m (q▸z));exact⟨⟨λc e=>((lE _ _ λq=>nn (q▸e) d).symm.trans e),λc f e n m O=>(g c n m).trans e,λc f e n m=>⟨f.slots,(g c n m).trans e⟩⟩,d⟩
theorem Je {m e0:Env}{head:Value}(I:A.frames=some (e0::i))(v:s.heap.FunFrames base (e0::i))(U:e0.frame=some L)(G:m.frame=some L)
  (r:s.heap.get? e=some k) (j:k.data=.fields H) (hsz:1<H.size)
  (h:∀g T w y,s.heap.get? T=none->g.get? e=some (Obj.mapFields (·.setIfInBounds 1 (.ref T)) k)->g.get? T=some w->w.data=.fields y->3<y.size->T≠e->nj e (λO=>False) (cM (e0::i)) s.heap g->Q () {s with heap:=g}):
  wpAny M A (do let a←PySem.frameOf m;let d←entryPlaceOf L aeG;let b←EntryCells.newEntry head a .none (rawInt L) .none d;setField (.ref e) 1 b) Q E s:=by
 have D:e∉cM (e0::i):=λJ=>by exact yf (v.mem J) λO o ho N=>N H (ss r ho▸j)
 refine ae (TA I v U G λc f=>ae (wpAny_entryPlaceOf λd wJ=>ae (qw ?_ (wJ.sizeOk5 _ _ _ _ _))));have t:c.get? e=some k:=(f.2.1 e D).trans r;have u:=cR (h:=c) {cls:=.type "traceback",dict:=none,data:=.fields ([head,.ref L,.none,rawInt L,.none]++(if d.isEmpty then List.replicate 6 Value.none else d)).toArray} t;have p:c.objs.size≠e:=Nat.ne_of_gt (o9 t);refine wpAny_setField u j hsz (Ka (Dq (a:=e) (Ts:=λO=>False) (fs:=cM (e0::i)) (i:=1) (x:=.ref c.objs.size) u j (.inl rfl)) λt1 t2=>?_);have C:=(lE (c.push {cls:=.type "traceback",dict:=none,data:=.fields ([head,.ref L,.none,rawInt L,.none]++(if d.isEmpty then List.replicate 6 Value.none else d)).toArray})
  (Obj.mapFields (·.setIfInBounds 1 (Value.ref c.objs.size))) (jT p)).trans (eK c rfl)
 refine h _ c.objs.size _ _ ?_ t2 C rfl (by simp only[List.size_toArray,List.length_append,List.length_cons,List.length_nil];lia) p ?_
 ·exact B f.1 (fY (dE _))
 ·refine nj.trans (h₁:=c.push {cls:=.type "traceback",dict:=none,data:=.fields ([head,.ref L,.none,rawInt L,.none]++(if d.isEmpty then List.replicate 6 Value.none else d)).toArray}) ⟨λb z=>?_,λb o z O O n=>cR _ ((f.2.1 b n).trans z),λb o z O O=>?_⟩ t1
  ·exact gu (λo q z=>Ke (f.2.2 b o q) λx l=>nn z (cR _ l)) z
  ·exact Ke (f.2.2 b o z) λx l=>⟨x,cR _ l⟩
end
theorem Dr (e:h.get? a=some o)(d:o.data=.fields g):¬IsTup h a i:=λt=>by exact oY t λf c O n b=>nomatch d.symm.trans ((br Obj.data (ss e c)).trans b)
theorem zU {a:Array b}(h:1<a.size):(a.setIfInBounds 1 x)[1]? =some x:=by simp[h]
theorem Jf (T:Addr):(Value.ref T !=Value.none)=true:=by simp
theorem Jg (T:Addr):¬((Value.ref T==Value.none)=true):=by simp
def oF (h:Heap) (a:Addr):Prop:=∃o b T,h.get? a=some o/\o.data=.fields b/\b[1]? =some (.ref T)
section
variable {rs:List (Str×Nat)}{E:Value->Shared->Prop}
structure Mv (g:Cx)(i:List Env)(e:Heap)(Y:AH)(f:Addr->Addr)(a:Addr)(c:Cl)(t:PV)(h d:Heap):Prop where
 j6:gK g e Y f d a c t
 de:∀b,bF Y f b->d.get? b=h.get? b
 same:∀b o,h.get? b=some o->e.get? b≠none->b∉cM i->d.get? b=some o
 fr:∀b o,h.get? b=some o->e.get? b≠none->∃j,d.get? b=some {o with slots:=j}
 bO:∀b,d.get? b=none->h.get? b=none
 av:cb h d
theorem Mv.refl (f:gK b d Y g h a c t):Mv b i d Y g a c t h h:=⟨f,λO O=>rfl,λO O e O O=>e,λO o e O=>⟨o.slots,e⟩,λO e=>e,λO O t=>t⟩
theorem Mv.trans (x:Mv d f g Y j a c t h h₁)(y:Mv d f g Y j a c t h₁ k):Mv d f g Y j a c t h k:=
 ⟨y.j6,λb o=>(y.de b o).trans (x.de b o),λb o e n m=>y.same b o (x.same b o e n m) n m,λb o e n=>by exact Ke (x.fr b o e n) λp e1=>Ke (y.fr b _ e1 n) λl e2=>⟨l,e2⟩,λb e=>x.bO b (y.bO b e),λa i z=>y.av a i (x.av a i z)⟩
theorem Mv.of (U:bk l p σ₀ tw i)(I:bk l p Y k h){Ts:Addr->Prop}
  (N:h.get? a=some o) (p2:o.cls=.ref (l.cy c)) (p3:o.dict=some d) (p4:o.data=.fields g) (p5:1<g.size) (p6:h.get? d=some (dictOf y n)) (p7:ft l.w.params h y [(.dp,t)])
  (w:i.get? a=none) (D:i.get? d=none) (H:a≠d) (C:¬bF Y k a) (Q:¬bF Y k d) (T:nj a Ts (cM p) h s) (j:∀b,Ts b->i.get? b=none/\¬bF Y k b/\b≠d/\∀g,¬IsTup h b g)
  (q1:s.get? a=some v) (q2:v.cls=o.cls) (q3:v.dict=o.dict) (q4:v.data=.fields x) (q5:x.size=g.size)
  (q6:Hg i Y k s a d x):Mv l p i Y k a c t h s:=by
 have J:∀b,i.get? b=none->b∉cM p:=λb e m=>by obtain⟨O,o,u,O⟩:=m6 U.frames b m;exact nn e u
 have G:cb h s:=λb g z=>by exact ai (id z) λM A r=>Hd z A (T.fr b M A (λq=>(λg=>Dr N p4) g (q▸z)) λq=>(j b q).2.2.2 g z)
 refine⟨⟨v,d,y,n,x,q1,q2.trans p2,q3.trans p3,q4,q5▸p5,(T.same d _ p6 (jT H) (λq=>(j d q).2.2.1 rfl) (J d D)),p7.bU G,w,D,H,C,Q,q6⟩,λb f=>?_,λb f e n m=>T.same b f e (λq=>n (q▸w)) (λq=>n (j b q).1) m,λb f e n=>T.fr b f e (λq=>n (q▸w)) λq=>n (j b q).1,T.bO,G⟩;obtain⟨L,u,O⟩:=I.mt.kind f;exact B u (T.same b L u (λq=>C (q▸f)) (λq=>(j b q).2.1 f) (I.de b f).2)
theorem Jh (o:Obj)(f):(Obj.mapFields f o).cls=o.cls:=Obj.cls_mapFields o f
theorem Ji (o:Obj)(f):(Obj.mapFields f o).dict=o.dict:=by obtain⟨c,d,a,b⟩:=o;cases a<;>rfl
theorem wK {e0:Env}{L:Addr}(hE:p=e0::outer)(zV:A.frames=some p)(zW:e0.frame=some L)(y:env.frame=some L)(G:bk v p σ₀ tw H)(I:bk v p Y δ s.heap)(hz:∀b,s.heap.get? b=none->H.get? b=none)(f:gK v H Y δ s.heap a c t)
  (w:∀h,Mv v p H Y δ a c t s.heap h->oF h a->Q () {s with heap:=h}):wpAny M A (noteFrame (.ref a) env) Q E s:=by
 subst hE;obtain⟨o,dx,es,n,vs,i,p2,p3,d,g,r,p7,p8,p9,zX,wL,zY,C⟩:=id f;have l:=λf=>Obj.data_mapFields d f;unfold noteFrame;simp only[y];rcases C with C|⟨T,oT,u,J,b2,b3,b4,b5,j,k,N⟩
 ·exact ae (lL i d C (B (aH dc) (Je zV I.frames zW y i d g λh T oT u t1 t2 t3 t4 t5 t6 TT=>w h (Mv.of G I i p2 p3 d g r p7 p8 p9 zX wL zY TT (λb z=>z.elim) t2 (Jh _ _) (Ji _ _) (l _) Bz (.vY T oT u (zU g) t6 (λq=>nn (q▸t1) r) (hz _ t1) (λx=>I.mt.bO x t1) t3 t4 t5)) (qq _ _ T t2 (l _) (zU g)))))
 ·refine ae (lL i d J (B (aG (Jf T)) (ae (lL j k (by simp[N]:u[3]? =some u[3]) ?_))))
  split
  ·exact aU (w s.heap (Mv.refl f) (qq o vs T i d J))
  ·refine ae (wpAny_setField j k N ?_)
   obtain⟨t1,t2⟩:=Dq (a:=a) (Ts:=λb=>b=T) (fs:=cM (e0::outer)) (i:=3) (x:=Value.none) j k (.inr rfl);refine Je (s:={s with heap:=s.heap.update T (Obj.mapFields (·.setIfInBounds 3 Value.none))}) zV (I.frames.of_keeps λb o e nf=>aQ o ((lE _ _ λq=>by subst q;have e:=j▸e;have e:=bo e;subst e;exact nf _ k).trans e) rfl) zW y ((lE _ _ b2).trans i) d g λh U TB TC u1 u2 u3 u4 u5 u6 TT=>?_;have D:=t1.bO _ u1;exact w h (Mv.of G I i p2 p3 d g r p7 p8 p9 zX wL zY (t1.trans ⟨TT.bO,λb o e n O m=>TT.same b o e n id m,λb o e n O=>TT.fr b o e n id⟩) (λb z=>B z (cZ b4 b5 b3 (λws=>Dr j k))) u2 (Jh _ _) (Ji _ _) (l _) Bz (.vY U TB TC (zU g) u6 (λq=>nn (q▸D) r) (hz _ D) (λx=>I.mt.bO x D) u3 u4 u5)) (qq _ _ U u2 (l _) (zU g))
theorem Jj (w:Option Addr)(C:bk k l σ₀ tw y)(I:bk k l Y H s.heap)(f:gK k y Y H s.heap a c t)
  (x:∀m,Mv k l y Y H a c t s.heap m->(oF s.heap a->oF m a)->Q () {s with heap:=m}):wpAny M A (setFlight (.ref a) w) Q E s:=by
 obtain⟨o,dx,es,n,vs,d,J,L,e,N,p6,p7,p8,p9,D,G,U,p⟩:=id f;rcases p with p|⟨T,oT,ts,h,i,q,r,u,j,g,v⟩
 ·exact ae (lL d e p (B (aH dc) (aU (x s.heap (Mv.refl f) id))))
 ·refine ae (lL d e h (B (aG (Jf T)) (wpAny_setField j g v (x _ ?_ λO=>qq o vs T ((lE _ _ i).trans d) e h))))
  refine Ka (Dq (a:=a) (Ts:=λb=>b=T) (fs:=cM l) (i:=3) (x:=w.elim .none λf=>rawInt f) j g (.inr rfl)) λt1 t2=>Mv.of C I d J L e N p6 p7 p8 p9 D G U t1 (λb z=>?_) ((lE _ _ i).trans d) rfl rfl e rfl (.vY T _ _ h i q r u t2 (Obj.data_mapFields g _) (Nat.lt_of_lt_of_eq v Bz.symm));exact B z (cZ r u q (λws=>Dr j g))
theorem tB (g:Option Addr)(j:bk d e n l h)(I:bk d e Y i s.heap)(f:gK d h Y i s.heap a c t)
  (k:∀b,Mv d e h Y i a c t s.heap b->Q () {s with heap:=b}):wpAny M A (setFlight (.ref a) g) Q E s:=Jj g j I f λb m O=>k b m
theorem Jk {T:Addr}(e:s.heap.get? a=some o)(f:o.data=.fields i)(c:i[1]? =some (.ref T))(h:wpAny M A (setFlight (.ref a) d.frame) (λO g=>b (.ref a) g) b s):
  cameBackBy M A d b (.ref a) s:=by
 exact ae (lL e f c (B (aH (Jg T)) h))
theorem Jl (i:bk d e v u g)(I:bk d e Y h s.heap)(f:gK d g Y h s.heap a c t)(tr:oF s.heap a)
  (k:∀b,Mv d e g Y h a c t s.heap b->E (.ref a) {s with heap:=b}):wpAny M A (PySem.passOn q (.ref a) env:Sem r) Q E s:=by
 exact jr tr λo p T l n j=>ae (lL l n j (B (aH (Jg T)) (ae (tB _ i I f λb m=>wpAny_throw (k b m)))))
theorem cE.mv (j:bk d f s r i)(w:∀b,fN l b->d.base.get? b=none)(g:cE d f l s r i Y p h)(m:Mv d f i Y p a c t h v):cE d f l s r i Y p v:=by
 refine cE.sZ j g m.de (λb o e O n=>?_) w (λb o e y=>?_) (λb e=>g.bh.bO b (m.bO b e)) m.av
 ·cases q:h.get? b with
  |none=>exact nn (g.bh.bO b q) e
  |some A=>exact m.same b A q (c0 e) n
 ·obtain⟨O,C,x,O⟩:=m6 j.frames b y
  obtain⟨H,u⟩:=m.fr b o e (c0 x);exact gD _ u (λO=>⟨H,rfl⟩) (λk=>k)
theorem Go.mv (r:bk j d l k f)(g:Go j d l k f Y p h)(m:Mv j d f Y p a c t h h'):Go j d l k f Y p h':=by
 have K:dT (bF l k) (cM d) f h':=⟨λb e=>g.bh.bO b (m.bO b e),λb o e n i=>m.same b o (g.bh.aa b o e n i) (c0 e) i,λb o e n i=>by exact Ke (g.bh.fr b o e n i) λv q=>Ke (m.fr b _ q (c0 e)) λu s=>⟨u,s⟩⟩
 have G:=zh r K;exact⟨⟨G.1,G.2,⟨λa o e=>eT.sY e (λO O O=>rfl) m.de m.av (g.ak.mt.aa a o e),g.ak.mt.iB,g.ak.mt.inj⟩,g.ak.de⟩,K,g.eM⟩
theorem LR.mv (l:LR d rs Y f k h)(j:∀b,fN d b->i.get? b≠none)(m:Mv n p i Y f a c t h g):LR d rs Y f k g:=l.sY (λb o x e=>m.fr b o e (j b x)) m.av
theorem passes (st:df n j i rs)(C:A.frames=some j)(d:bk n j Y q s.heap)(G:LR i rs Y q wM s.heap):PassesOwn M A i (dW n j i rs Y q s X):=λe s' x=>by obtain⟨a,c,t,fO,σ',Q,v,h,r,u,g,l,f,z⟩:=x;refine B r ?_;refine B u ?_;refine jr st.gL λe0 outer L w H y=>wK (s:=aa s v h) w C H y d g.ak g.bh.bO f λp k tr=>jr tr λo vs T I J N=>Jk (s:=aa s p h) I J N (tB (s:=aa s p h) _ d (g.mv d st.dU k).ak k.j6 λD U=>?_);have m:=k.trans U;exact⟨a,c,t,fO,σ',Q,D,h,rfl,rfl,g.mv d st.dU m,l.mv (λb x=>(G.c0 x).1) m,m.j6,z⟩
end
def j7 (P:Addr->Prop) (h a:Heap):Prop:=∀b o,h.get? b=some o->¬P b->a.get? b=some o
structure gy (c:Cx)(f:List Env)(A:Around)(m:Expr)(I:Addr)(P:Addr->Prop)(items:List PV)(g:AH->Prop)(J:Nat->Heap->Prop):Prop where
 next:∀(i:Nat) (x:PV) (Y:AH) (e:Addr->Addr) (s:Shared) (Q:Value->Shared->Prop) (E j:Value->Shared->Prop),bk c f Y e s.heap->g Y->J i s.heap->items[i]? =some x->
  (∀v a d,ag a v x->J (i+1) a->j7 P s.heap a->(cb s.heap a)->Q v (aa s a d))->
  wpAny (model c.prog c.w) A (pyNext (.ref I)) (λr k=>match r with|none=>False|some v=>wpAny (model c.prog c.w) A (letOwnedTupleGo m (.ref I) v) (λO l=>Q v l) j k) E s
 done:∀(i:Nat) (Y:AH) (e:Addr->Addr) (s:Shared) (Q:Option Value->Shared->Prop) (E:Value->Shared->Prop),bk c f Y e s.heap->g Y->J i s.heap->items[i]? =none->
  (∀a d,j7 P s.heap a->Q none (aa s a d))->wpAny (model c.prog c.w) A (pyNext (.ref I)) Q E s
 oG:∀(i:Nat) (s:Shared) (Q:Value->Shared->Prop) (E:Value->Shared->Prop),J i s.heap->Q (.ref I) s->wpAny (model c.prog c.w) A (pyIter (.ref I)) Q E s
 bh:∀i h a,J i h->(∀b o,P b->h.get? b=some o->a.get? b=some o)->(cb h a)->J i a
 c0:∀i h,J i h->∀b,P b->h.get? b≠none
 qZ:∀i h,J i h->∀b,P b->∀n,¬IsTup h b n
def jF (a:Cx) (d:List Env) (A:Around) (e:Expr) (v:Value) (s:Shared) (items:List PV) (g:AH->Prop):Prop:=
 ∀(Q:Value->Shared->Prop) (E:Value->Shared->Prop),(∀I P J c,gy a d A e I P items g J->J 0 c->(fp s.heap c)->(∀b,P b->s.heap.get? b=none)->P I->Q (.ref I) {s with heap:=c})->
  wpAny (model a.prog a.w) A (pyIter v) Q E s
noncomputable def Ds (a:String):Bool:=!["enumerate","zip","dict_itemiterator","dict_reverseitemiterator","odict_iterator","itertools.zip_longest","itertools.pairwise"].contains a&&!(a=="tuple")
theorem TF {G:Sem Unit->Prop}(b:Expr)(a v:Value)(c:G (letOwnedTupleGo (.Tuple [] default default) a v))(d:G (pure ())):G (letOwnedTupleGo b a v):=by cases b<;>first|exact d|exact c
theorem TG {E:Value->Shared->Prop}(n:b=false)(h:wpAny M A e Q E s):wpAny M A (if b=true then t else e) Q E s:=by exact B n h
theorem TH {M:Model}{E:Value->Shared->Prop}(f:s.heap.get? i=some o)(e:o.cls=.type k)(g:Ds k=true)(h:Q () s):wpAny M A (letOwnedTupleGo j (.ref i) v) Q E s:=
 TF (G:=λt=>wpAny M A t Q E s) j _ _ (by
  cases v with
  |ref a=>
    obtain⟨c,d,b,l⟩:=o;subst e;refine ae (wpAny_load f ?_);cases b with
    |fields m=>exact TG (by refine B (cw (V g).1) ?_;rfl) (aU h)
    |_=>exact aU h
  |_=>exact aU h) (aU h)
structure wN (I:Addr)(J:Nat->Heap->Prop):Prop where
 aa:∀{i h},J i h->∃o b,h.get? I=some o/\o.cls=.type b/\Ds b=true
 bh:∀{i h a},J i h->(∀o,h.get? I=some o->a.get? I=some o)->cb h a->J i a
theorem wN.qZ (f:wN I J)(j:J i h)(g:Array Value):¬IsTup h I g:=λz=>by refine n2 (f.aa j) λo l d a b=>gk z λk e c O=>?_;rw[ss d e,c] at a;rw[←Value.type.inj a] at b;exact absurd b dc
theorem wN.of {R:Nat->Obj->Prop}(a:∀{i h},J i h↔∃o,h.get? I=some o/\R i o)(c:String)(e:Ds c=true)(d:∀{i o},R i o->o.cls=.type c):wN I J:=
 ⟨λj=>by exact ai (a.mp j) λo b r=>iZ o c b (d r) e,λj k O=>by exact ai (a.mp j) λo b r=>a.mpr (aQ o (k o b) r)⟩
section
variable {A:Around}(f:A.handled=none)
theorem gy.of (l:wN I J)
  (next:∀(i:Nat) (x:PV) (Y:AH) (d:Addr->Addr) (s:Shared) (F:Option Value->Shared->Prop) (E:Value->Shared->Prop),bk c y Y d s.heap->g Y->J i s.heap->items[i]? =some x->(∀v a m,(cb s.heap a->J (i+1) a/\ag a v x)->Heap.SameBut I s.heap a->F (some v) (aa s a m))->wpAny (model c.prog c.w) A (pyNext (.ref I)) F E s)
  (done:∀(i:Nat) (Y:AH) (d:Addr->Addr) (s:Shared) (Q:Option Value->Shared->Prop) (E:Value->Shared->Prop),bk c y Y d s.heap->g Y->J i s.heap->items[i]? =none->(∀a,(∀b o,b≠I->s.heap.get? b=some o->a.get? b=some o)->Q none {s with heap:=a})->wpAny (model c.prog c.w) A (pyNext (.ref I)) Q E s)
  (oG:∀(i:Nat) (s:Shared) (Q:Value->Shared->Prop) (E:Value->Shared->Prop),J i s.heap->Q (.ref I) s->wpAny (model c.prog c.w) A (pyIter (.ref I)) Q E s):gy c y A M I (·=I) items g J where
 next:=λi x Y d s Q E L p e j w q=>next i x Y d s _ E p e j w λv a m k H=>by have t:=mZ H (l.qZ j);exact Ka (k t) λC r=>n2 (l.aa C) λo N u D U=>TH (s:=aa s a m) u D U (q v a m r C (λb o e n=>(H.2 b n).trans e) t)
 done:=λi Y d s Q E p e j w q=>done i Y d s Q E p e j w λa G=>q a s.toks λb o e n=>G b o n e
 oG:=oG
 bh:=λi h a j k t=>l.bh j (λo=>k I o rfl) t
 c0:=λi h j b e=>fj (l.aa j) λo O u O=>λz=>nn (e▸z) u
 qZ:=λi h j b e=>e▸l.qZ j
include f
theorem TJ {g:List PV}:gy y z A H I (·=I) g (λY=>Y a=some (.list g)) (λi h=>h.IsListIter I a i):=
 gy.of (.of Iff.rfl "list_iterator" dc And.left) (λi x Y w s F E b e j d c=>by refine ai (b.mt.aa a _ e) λu l r=>?_;obtain⟨v,p,q⟩:=r.get d;exact wpAny_pyNext_list_item j l.eG (x:=v) (B (jP) p) λk m n=>c v k s.toks (λt=>⟨m,ag.bU t q⟩) n)
 (λi Y w s Q E b e j d c=>by exact ai (b.mt.aa a _ e) λu l r=>wpAny_pyNext_list_end f j l.eG (by rw[jP,lD,r.length];exact lD.mp d) c)
 λi s Q E j h=>wpAny_pyIter_listiter j h
omit f in
theorem q0 {h:Heap}:∀b,b=h.objs.size->h.get? b=none:=λb e=>B e (Heap.get?_none_of_le (Nat.le_refl _))
theorem TK {i:Expr}(d:bk g h Y m s.heap)(e:Y a=some (.list c)):jF g h A i (.ref a) s c (λY=>Y a=some (.list c)):=λQ E k=>by exact ai (d.mt.aa a _ e) λj l r=>wpAny_pyIter_list l.eG (k _ _ _ _ (TJ f) (gD _ (eK _ rfl) rfl rfl) (λb o e=>cR _ e) q0 rfl)
theorem TL:gy H C A D I (·=I) w (λO=>True) (λi h=>h.IsTupleIter I a i/\IsTup h a vs.toArray/\aJ h vs w):=
 gy.of ⟨λj=>ai j.1 λo c r=>iZ o _ c r.1 dc,λj k t=>aS (by exact ai j.1 λo c r=>aQ o (k o c) r) (t _ _ j.2.1) (aJ.bU t j.2.2)⟩ (λi x Y z s F E l e j d b=>by refine dD j λu g r=>?_;obtain⟨v,q,y⟩:=r.get d;exact wpAny_pyNext_tuple_item u g (x:=v) (by refine B (jP) ?_;exact q) λm n p=>b v m s.toks (λt=>⟨(aS n (t _ _ g) (aJ.bU t r)),ag.bU t y⟩) p)
 (λi Y z s Q E l e j d b=>wpAny_pyNext_tuple_end f j.1 j.2.1 (by rw[jP,lD,j.2.2.length];exact lD.mp d) b)
 λi s Q E j h=>wpAny_pyIter_tupleiter j.1 h
theorem TM {h:Expr}(d:IsTup s.heap a vs.toArray)(r:aJ s.heap vs g):jF i j A h (.ref a) s g (λO=>True):=λQ E k=>by have c:fp s.heap (s.heap.push {cls:=.type "tuple_iterator",data:=.fields #[.ref a,.int 0 0]}):=λb o e=>cR _ e;exact wpAny_pyIter_tuple d (k _ _ _ _ (TL f (a:=a) (vs:=vs)) (aS (gD _ (eK _ rfl) rfl rfl) (lY c _ _ d) (aJ.bU (lY c) r)) c q0 rfl)
theorem TN {b:Array UInt8}:gy q r A u I (·=I) (b.toList.map λc=>PV.int (c.toNat:Int)) (λO=>True) (λi h=>KBw.IsBytesIter h I b t i):=
 gy.of (.of Iff.rfl "bytes_iterator" dc And.left) (λi x Y p s F E g e j a d=>by rw[eZ] at a;exact ai (fW.mp a) λc l ec=>KBw.next_item j (c:=c) (rZ.symm.trans l) λk m n=>d _ k (s.toks+1) (λO=>⟨m,ec▸.int _ _⟩) n)
 (λi Y p s Q E g e j a d=>KBw.next_end f j (by rw[eZ] at a;exact rZ.symm.trans (yl.mp a)) d)
 λi s Q E j h=>KBw.pyIter_self j h
theorem TO {a:Expr}:jF d g A a (.bytes b t) s (b.toList.map λc=>PV.int (c.toNat:Int)) (λO=>True):=λQ E k=>KBw.pyIter_bytes (k _ _ _ _ (TN f) (gD _ (eK _ rfl) rfl rfl) (λb o e=>cR _ e) q0 rfl)
theorem Jm {x:Str}(g:n="str_ascii_iterator"∨n="str_iterator"):gy r u A v I (·=I) (x.cps.toList.map λc=>PV.str [c]) (λO=>True) (λi h=>h.IsStrIter I n x t i):=
 gy.of (.of Iff.rfl n (by rcases g with rfl|rfl<;>decide) And.left) (λi x Y q s F E p e j a b=>by
  rw[eZ] at a;refine ai (fW.mp a) λc d ec=>?_;have d:=rZ.symm.trans d;rcases g with rfl|rfl
  ·exact wpAny_pyNext_ascii_item j (c:=c) d λk l m=>b _ k (s.toks+1) (λO=>⟨l,ec▸.str _ _ rfl⟩) m
  ·exact wpAny_pyNext_wide_item j (c:=c) d λk l m=>b _ k (s.toks+1) (λO=>⟨l,ec▸.str _ _ rfl⟩) m)
 (λi Y q s Q E p e j a b=>by
  rw[eZ] at a;have a:=rZ.symm.trans (yl.mp a);rcases g with rfl|rfl
  ·exact wpAny_pyNext_ascii_end f j a b
  ·exact wpAny_pyNext_wide_end f j a b)
 λi s Q E j h=>g.elim (λe=>wpAny_pyIter_striter_ascii (e▸j) h) λe=>wpAny_pyIter_striter_wide (e▸j) h
theorem TP {d:Expr}:jF g h A d (.str x t) s (x.cps.toList.map λc=>PV.str [c]) (λO=>True):=λQ E k=>by
 cases a:x.cps.all (·<128)
 ·exact wpAny_pyIter_wide a (k _ _ _ _ (Jm f (.inr rfl)) (gD _ (eK _ rfl) rfl rfl) (λb o e=>cR _ e) q0 rfl)
 ·exact wpAny_pyIter_ascii a (k _ _ _ _ (Jm f (.inl rfl)) (gD _ (eK _ rfl) rfl rfl) (λb o e=>cR _ e) q0 rfl)
omit f in
theorem isBytes_shape (h:isBytes l v=true):∃b t,v=.bytes b t/\b.toList=l:=by
 cases v with
 |bytes b t=>exact gE b t rfl (bG.mp h)
 |_=>exact absurd h dz
inductive TQ {a:Type}(b:a->PV->Prop)(r:List (a×Value))(i:Nat)(p:PV):Prop
 |mk (k:a) (v:Value) (e:r[i]? =some (k,v)) (c:b k p)
omit f in
theorem TR (x:cK c h r s):∀{i:Nat} {p:PV×PV},s[i]? =some p->TQ c r i p.1:=by
 induction x with
 |nil=>exact λe=>nn rfl e
 |cons a O O b=>
  intro i p e;cases i with
  |zero=>exact⟨_,_,rfl,(bo e)▸a⟩
  |succ i=>obtain⟨k,v,e1,e2⟩:=b e;exact⟨k,v,e1,e2⟩
omit f in
theorem Dt (M:Mt m Y v h)(e:Y a=some (.dict s u)){P:Prop}
  (k:∀{K:Type} [DecidableEq K] (n:PySem.KeyKind m.prog m.w K) (g:K->PV->Prop) (i:List (K×Value)),h.DictAt n a i s->cK g h i u->(∀{j key c p},n.is c key=true->g c p->ag j key p)->P):P:=by
 rcases M.aa a _ e with⟨i,d,r⟩|⟨i,d,r⟩
 ·exact k _ _ i d r λ{j key c p} l g=>Ke (Value.isStrOf_shape l) λt e=>B e (B (g:p=_) (.str _ _ rfl))
 ·exact k _ _ i d r λ{j key c p} l g=>fj (isBytes_shape l) λb t e q=>B e (B (g:p=_) (az q (.bytes _ _ rfl)))
theorem TS {c:Nat}:gy J L A M I (·=I) (q.map (·.1)) (λY=>Y a=some (.dict c q)) (λi h=>h.IsKeyIter I a i q.length c):=
 gy.of (.of Iff.rfl "dict_keyiterator" dc And.left) (λi x Y U s F E g e j b l=>by rw[eZ] at b;refine ai (fW.mp b) λp H t=>Dt g.mt e λG m n d r D=>?_;obtain⟨k,v,y,m⟩:=TR r H;have j:s.heap.IsKeyIter I a i n.length c:=r.length.symm▸j;exact wpAny_pyNext_dict_item j d y λkey u z w C=>l key u s.toks (λO=>⟨r.length▸w,t▸D z m⟩) C)
 (λi Y U s Q E g e j b l=>Dt g.mt e λG m n d r O=>by have j:s.heap.IsKeyIter I a i n.length c:=r.length.symm▸j;rw[eZ] at b;exact wpAny_pyNext_dict_end f j d (lD.mpr (r.length.symm▸lD.mp (yl.mp b))) l)
 λi s Q E j h=>wpAny_pyIter_keyiter j h
theorem TU {l:Expr}{c:List (PV×PV)}(ns:(a==sysModules)=false)(g:bk h i Y q s.heap)(e:Y a=some (.dict j c)):jF h i A l (.ref a) s (c.map (·.1)) (λY=>Y a=some (.dict j c)):=λQ E k=>Dt g.mt e λm n p d r O=>wpAny_pyIter_dict ns d (k _ _ _ _ (TS f) (gD _ (eK _ rfl) rfl (by refine B r.length ?_;rfl)) (λb o e=>cR _ e) q0 rfl)
omit f in
theorem TV {i:Nat}(h:(jz a b c)[i]? =some x):(i:Int)<(b-a+c-1)/c/\x=.int (a+c*i):=by unfold jz at h;rw[eZ] at h;refine ai (fW.mp h) λk j g=>az g (Ke (kH.mp j) λd e=>?_);rw[List.getElem_range] at e;subst e;rw[kJ] at d;exact⟨Int.lt_toNat.mp d,rfl⟩
theorem TX {I:Addr}:gy v w A y I (·=I) (jz a b c) (λO=>True) (λi h=>IsRangeIter h I (a+c*i) ((((b-a+c-1)/c).toNat:Int)-i) c):=
 gy.of ⟨λj=>iZ _ _ j rfl dc,λj k O=>k _ j⟩ (λi x Y u s F E m e j l d=>by
  refine Ka (TV l) λq n=>wpAny_pyNext_range_item j (Int.sub_pos_of_lt (Int.lt_of_lt_of_le q (Int.self_le_toNat _))) λp r t=>d _ p (s.toks+1) (λO=>⟨?_,n▸.int _ _⟩) t;have e2:(((b-a+c-1)/c).toNat:Int)-((i+1:Nat):Int)=(((b-a+c-1)/c).toNat:Int)-i-1:=by rw[Int.sub_sub];rfl
  exact B (by rw[Int.natCast_succ,Int.mul_add,Int.mul_one,Int.add_assoc]:a+c*((i+1:Nat):Int)=a+c*i+c) (B e2 r))
 (λi Y u s Q E m e j l d=>by have g:=lD.mp l;unfold jz at g;rw[aW,kJ] at g;exact wpAny_pyNext_range_end f j (Int.sub_nonpos_of_le (i7.mpr g)) d)
 λi s Q E j h=>wpAny_pyIter_rangeiter j h
omit f in
theorem TY (a b c:Int):b-a+c-1=b-a-1+1*c:=by rw[Int.one_mul];exact Int.add_right_comm (b-a) c (-1)
omit f in
omit f in
theorem TZ (d:0<c):Builtin.Range.rangeSize a b c=((b-a+c-1)/c).toNat:=by
 unfold Builtin.Range.rangeSize;refine B (aG d) ?_;by_cases h:a<b
 ·rw[aG h,TY,Int.add_mul_ediv_right _ _ (Int.ne_of_gt d)]
  exact(yq (Int.add_nonneg (Int.ediv_nonneg (Int.le_sub_one_of_lt (Int.sub_pos_of_lt h)) (lK d)) dc)).symm
 ·refine B (aH h) (B (Int.toNat_of_nonpos (Int.le_of_lt_add_one (Int.ediv_lt_of_lt_mul d ((by omega))))) ?_);rfl
omit f in
theorem wO {x l u:Int}(a:l<=x)(b:x<=u)(e1: -2^63<=l)(e2:u<2^63): -2^63<=x/\x<2^63:=⟨Int.le_trans e1 a,Int.lt_of_le_of_lt b e2⟩
omit f in
theorem T5 {a b c:Int}(d:0<c)(e: -1000000<=a)(g:b<=1000000):(b-a+c-1)/c<=(4000000:Nat):=Int.ediv_le_of_le_mul d (by omega)
theorem T6 {n:Expr}(m:IsRange s.heap r a b c t u v)(d:0<c)(j:c<=1000000)(h: -1000000<=a)(l:a<=1000000)(g:b<=1000000)(i: -1000000<=b):jF p q A n (.ref r) s (jz a b c) (λO=>True):=λQ E k=>by
 have rs:=TZ (a:=a) (b:=b) d;refine wpAny_pyIter_range m ?_ (k _ _ _ _ (TX f (a:=a) (b:=b) (c:=c)) ?_ (λb o e=>cR _ e) q0 rfl)
 ·unfold Builtin.Range.small
  refine B rs ?_;simp only[Builtin.Range.rangeFitsLong,Bool.and_eq_true,Bool.or_eq_true,decide_eq_true_eq,gt_iff_lt,d,if_true];refine⟨⟨⟨⟨wO h l dc dc,wO i g dc dc⟩,wO (lK d) j dc dc⟩,wO (fH _) (i7.mpr (qB.mpr (T5 d h g))) dc dc⟩,
   .inr (wO (lJ i (Int.le_add_of_nonneg_right (Int.sub_nonneg_of_le (Int.add_one_le_of_lt d)))) (Int.add_le_add g (lJ (Int.sub_le_self c dc) j)) dc dc)⟩
 ·refine(?_:(s.heap.push _).get? s.heap.objs.size=_)
  refine B (eK _ rfl) (B rs ?_);simp
omit f in
theorem Jn:∀{n i:Nat},(vU n a)[i]? =a[i]?.map λu=>.av [.int ((n+i:Nat):Int),u]:=by
 induction a with
 |nil=>exact rfl
 |cons y r b=>
  intro n i;cases i with
  |zero=>rfl
  |succ i=>exact b.trans (by rw[Nat.succ_add_eq_add_succ];rfl)
omit f in
omit f in
theorem Du (j:h.get? I=some {cls:=.type "enumerate",data:=d})(c:Array Value):¬IsTup h I c:=λz=>by exact gk z λe b a O=>absurd (Value.type.inj ((br Obj.cls (ss j b)).trans a:Value.type "enumerate"=.type "tuple")) dc
omit f in
theorem Jo (j:h.IsListIter g a i)(k:Array Value):¬IsTup h g k:=λz=>by refine gk j λo d b O=>gk z λl e c O=>?_;rw[ss d e,c] at b;exact absurd (Value.type.inj b) dc
theorem T7 {x1:Nat}(D:I≠it):gy cx envs A (.Tuple elts x1 pos) I (λb=>b=I∨b=it) (vU 0 xs) (λY=>Y a=some (.list xs)) (λi h=>(∃hH,IsEnum h I it i hH)/\h.IsListIter it a i) where
 next:=λi x Y δ s Q E aeH w e j g y=>by
  refine Ka j λT8 t=>Ke T8 λhH c=>ai (w.mt.aa a _ e) λvs l r=>ai ((by rw[Jn,lI] at g;exact ai (fW.mp g) λu N h2=>aQ u N h2.symm)) λu hu L=>?_
  obtain⟨v,hv,rv⟩:=r.get hu;refine wpAny_pyNext_enum_item c t l.eG (x:=v) (B (jP) hv) D λp k1 k2 k3 k4 G=>wpAny_letOwnedTupleGo_enum k1 λM e2 C=>?_;have t1:cb s.heap p:=λb m z=>by exact ai (id z) λU oC H=>aQ U (G b U (λq=>Du c m (q▸z)) (λq=>Jo t m (q▸z)) oC) H
  have t2:=mZ C (Du k1);refine ai k2 λo d H=>?_;exact y _ M (s.toks+1) (L▸.av (vs:=[.int i s.toks,v]) (t2 _ _ (uE _ k3 rfl _ rfl)) (.cons (.int _ _) (.cons (ag.bU t2 (ag.bU t1 rv)) .nil))) ⟨⟨v,by rw[Int.natCast_succ];exact e2⟩,(aQ o ((C.2 it (jT D)).trans d) H)⟩
   (λb o J n=>(C.2 b λq=>n (.inl q)).trans (G b o (λq=>n (.inl q)) (λq=>n (.inr q)) J)) λb m z=>t2 b m (t1 b m z)
 done:=λi Y δ s Q E w e j g y=>by refine Ka j λT9 t=>Ke T9 λhH c=>ai (w.mt.aa a _ e) λvs l r=>?_;rw[Jn] at g;exact wpAny_pyNext_enum_end f c t l.eG (by rw[jP,lD,r.length];exact lD.mp (yl.mp g)) λp he=>y p s.toks λb o e n=>he b o (λq=>n (.inr q)) e
 oG:=λi s Q E j h=>Ka j λUa O=>Ke Ua λhH c=>wpAny_pyIter_enum c h
 bh:=λi h p j k O=>by exact Ka j λUc Ud=>Ke Uc λhH c=>ai Ud λo d r=>⟨⟨hH,k I _ (.inl rfl) c⟩,(aQ o (k it o (.inr rfl) d) r)⟩
 c0:=λi h j b e=>by exact Ka j λUe Ug=>Ke Ue λhH c=>ai Ug λo d r=>e.elim (λe z=>nn (e▸z) c) λe z=>nn (e▸z) d
 qZ:=λi h j b e vs=>e.elim (λe=>Ka j λUh O=>Ke Uh λhH c=>e▸Du c vs) λe=>e▸Jo j.2 vs
end
def Jp (a:Cx) (d:List Env) (A:Around) (f:Expr) (v:Value) (e:Heap) (Y:AH) (h:Addr->Addr) (s:Shared) (items:List PV) (g:AH->Prop):Prop:=
 ∀(Q:Value->Shared->Prop) (E:Value->Shared->Prop),(∀I P J c,gy a d A f I P items g J->J 0 c->(fp s.heap c)->(∀b,P b->e.get? b=none/\¬bF Y h b)->P I->Q (.ref I) {s with heap:=c})->
  wpAny (model a.prog a.w) A (pyIter v) Q E s
theorem jF.tC (m:∀b,s.heap.get? b=none->n.get? b=none)(j:bk f h Y q s.heap)(x:jF f h A p v s items g):Jp f h A p v n Y q s items g:=
 λQ E k=>x Q E λI P J l a b c d e=>k I P J l a b c (λz i=>⟨m z (d z i),λo=>j.mt.bO o (d z i)⟩) e
section
variable (b:Cx)(a:List Env)(c:Env)(rs:List (Str×Nat))(d:Nat)(q:Bool)
inductive Jq (A:Around)(l:Expr)(Y:AH)(n:Addr->Addr)(s:Shared)(K:List PV->(AH->Prop)->AH->Prop)(v:Value)(j:Shared):Prop
 |mk (items:List PV) (g:AH->Prop) (f:AH) (k:Addr->Addr) (h:Heap) (m:Nat) (e:j=aa s h m) (p:Go b a Y n s.heap f k h) (i:Jp b a A l v s.heap f k j items g) (r:g f) (z:K items g f)
def gM (h g:Expr) (w:WI):Prop:=
 ∀(f:aP) (K:List PV->(AH->Prop)->AH->Prop) (X:XP) (Y:AH) (A:Around) (e:Addr->Addr) (s:Shared),q=false->dR b a c rs d q A Y e f s->w f K X Y->
  wpAny (model b.prog b.w) A (eval g c) (Jq b a A h Y e s K) (cD b a Y e s X) s
end
section
variable {rs:List (Str×Nat)}
theorem Dv (ok:c7 C)(M:Ex C J I rs L q it w):gM C J I rs L q target it (λy K X Y=>w y (λv Y=>lV v Y λl g=>K l g Y) X Y):=λy K X Y A δ s N U h=>by
 refine bM (M y _ X Y A δ s U h) (λv s' x=>?_) λO O x=>x;obtain⟨p,i,m,d,f,G,g,r,z⟩:=x;refine B G ?_;have j:=(U.ok.quiet N);have k:=g.bh.bO
 induction r using ag.casesOn with
 |av ht Q=>exact⟨_,_,i,m,d,f,rfl,g,jF.tC (s:=aa s d f) k g.ak (TM j ht Q),trivial,z⟩
 |str x t e=>subst e;exact⟨_,_,i,m,d,f,rfl,g,jF.tC (s:=aa s d f) k g.ak (TP j),trivial,z⟩
 |bytes b t e=>subst e;have z:K ((b.toList.map UInt8.toNat).map λ(c:Nat)=>.int c) (λO=>True) i:=z;rw[cV] at z;exact⟨_,_,i,m,d,f,rfl,g,jF.tC (s:=aa s d f) k g.ak (TO j),trivial,z⟩
 |ref a=>
  have z:(match i a with|some (.list u)=>K u (λH=>H a=some (.list u)) i|some (.dict D n)=>K (n.map (·.1)) (λH=>H a=some (.dict D n)) i|_=>False):=z;cases e:i a with
  |none=>rw[e] at z;exact z.elim
  |some o=>
   rw[e] at z;cases o with
   |list u=>exact⟨_,_,i,m,d,f,rfl,g,jF.tC (s:=aa s d f) k g.ak (TK j g.ak e),e,z⟩
   |dict D n=>exact⟨_,_,i,m,d,f,rfl,g,jF.tC (s:=aa s d f) k g.ak (TU j (m8 (s:=aa s d f) ok g.ak e) g.ak e),e,z⟩
   |_=>exact z.elim
 |_=>exact z.elim
theorem Dw (k:A.handled=none){K:List PV->(AH->Prop)->AH->Prop}(g:Go h i Y n s.heap f p j)
  (z:pH a b c K f) (m:fp j d) (l:IsRange d r a b c t u v):Jq h i A q Y n s K (.ref r) (aa s d e):=by
 have G:=g.trans (Go.ext g.ak m);exact⟨_,_,f,p,d,e,rfl,G,jF.tC (s:=aa s d e) G.bh.bO G.ak (T6 k l z.1.1.1 z.1.1.2 z.1.2.1.1 z.1.2.1.2 z.1.2.2.2 z.1.2.2.1),trivial,z.2⟩
theorem Ui {k:WE}(y:c.kindOf x=some .globalImplicit)(w:(x==("__debug__":Str))=false)(C:Gv d x (.type "range"))(f:(backTo pos (starEach [b] c)).any (·.1)=false)(n:iQ d l c rs u q [b] (λa Q X Y=>k a (λv Y=>Q [v] Y) X Y)):
  gM d l c rs u q target (.Call (.Name x np) [b] [] pos) (λa K X Y=>k a (λv Y=>v.cu (λb=>pH 0 b 1 K Y) False) X Y):=λa K X Y A G s H U h=>
 n6 (jC y w C U (u9 f (m9 f (ar.first (n pos a (λj Y=>a8 (PV.cu (λb=>pH 0 b 1 K Y) False) False j) X Y A G s U h) λj I L J m D g r z=>kX r z λv p r z=>m7 r z λi t z=>call_range_1 (s:=aa s m D) (Dw (U.ok.quiet H) g z (λb o e=>cR _ e) (eK _ rfl))))))
theorem Uj {m n:WE}(G:d.kindOf x=some .globalImplicit)(D:(x==("__debug__":Str))=false)(J:Gv f x (.type "range"))(k:(backTo pos (starEach [a,b] d)).any (·.1)=false)(H:iQ f w d rs C q [a,b] (λc Q X Y=>m c (λu Y=>n c (λv Y=>Q [u,v] Y) X Y) X Y)):
  gM f w d rs C q target (.Call (.Name x np) [a,b] [] pos) (λc K X Y=>m c (λu Y=>n c (λv Y=>u.cu (λa=>v.cu (λb=>pH a b 1 K Y) False) False) X Y) X Y):=λc K X Y A N s I U h=>
 n6 (jC G D J U (u9 k (m9 k (ar.first (H pos c (λl Y=>jy (λu v=>u.cu (λa=>v.cu (λb=>pH a b 1 K Y) False) False) False l) X Y A N s U h) λl ps σ' δ' y M g r z=>CO r z λv p u q r L z=>m7 r z λi t z=>m7 L z λj t' z=>call_range_2 (s:=aa s y M) (Dw (U.ok.quiet I) g z (λb o e=>cR _ e) (eK _ rfl))))))
theorem Uk {H C D:WE}(N:f.kindOf x=some .globalImplicit)(M:(x==("__debug__":Str))=false)(hv:Gv k x (.type "range"))(l:(backTo n (starEach [a,b,c] f)).any (·.1)=false)
  (J:iQ k G f rs L q [a,b,c] (λd Q X Y=>H d (λu Y=>C d (λv Y=>D d (λw Y=>Q [u,v,w] Y) X Y) X Y) X Y)):
  gM k G f rs L q target (.Call (.Name x np) [a,b,c] [] n) (λd K X Y=>H d (λu Y=>C d (λv Y=>D d (λt Y=>u.cu (λa=>v.cu (λb=>t.cu (λs=>pH a b s K Y) False) False) False) X Y) X Y) X Y):=λd K X Y A δ s hq U h=>by
 refine n6 (jC N M hv U (u9 l (m9 l (ar.first (J n d (λy Y=>Pj (λu v t=>u.cu (λa=>v.cu (λb=>t.cu (λs=>pH a b s K Y) False) False) False) y) X Y A δ s U h) λy ps σ' δ' I tk g r z=>?_))));cases r with
 |nil=>exact z.elim
 |cons r1 r2=>refine CO r2 (z:jy _ False _) λv p u q r r' z=>m7 r1 z λi t z=>m7 r z λj t' z=>m7 r' z λm t'' z=>?_;have zz:=z.1;exact call_range_3 (s:=aa s I tk) (by omega) (Dw (U.ok.quiet hq) g z (λb o e=>cR _ e) (eK _ rfl)) (.inl (PyProof.noPylong_small (by omega)))
theorem Ul {H:WE}(J:f.kindOf x=some .globalImplicit)(I:(x==("__debug__":Str))=false)(M:Gv m x (.type "enumerate"))(n:(backTo w (starEach [b] f)).any (·.1)=false)(D:iQ m C f rs G q [b] (λc Q X Y=>H c (λv Y=>Q [v] Y) X Y)):
  gM m C f rs G q (.Tuple elts x1 tp) (.Call (.Name x np) [b] [] w) (λc K X Y=>H c (λv Y=>v.d7 (λa=>CJ a K Y) False) X Y):=λc K X Y A δ s L U h=>by
 refine n6 (jC J I M U (u9 n (m9 n (ar.first (D w c (λy Y=>a8 (PV.d7 (λa=>CJ a K Y) False) False y) X Y A δ s U h) λy ps σ' δ' d j g r z=>kX r z λv p r z=>jd r z λa z=>qK z λxs e z=>ai (g.ak.mt.aa a _ e) λws l rw=>call_enumerate_list (s:=aa s d j) l.eG λi t N sz kk=>⟨_,_,σ',δ',i,j,rfl,(g.trans (Go.ext g.ak kk)),λQ E k=>(wpAny_pyIter_enum (s:=aa s i j) t (k _ _ _ i (T7 (U.ok.quiet L) (I:=d.objs.size+1) (it:=d.objs.size) (Nat.succ_ne_self _)) ⟨⟨_,t⟩,N⟩ (λO O e=>e) (λb pb=>?_) (.inl rfl))),e,z.2⟩))));have u:d.get? b=none:=pb.elim (λq=>q▸(fY (qD _))) λq=>q▸(fY (dE _));exact⟨g.bh.bO b u,λo=>g.ak.mt.bO o u⟩
end
def Dy (M:Model) (A:Around) (R:Result->Shared->Prop) (g:Expr) (body:List Stmt) (a:Env) (I:Nat->Shared->Prop) (n:Nat) (v:Value) (s:Shared):Prop:=
 wpAny M A (assign g a v) (λO d=>wpAny M A (execs body a) (λf c=>match f with
     |.next|.cont=>∃m,m<n/\I m c
     |.brk=>R (.ok .next) c
     |.ret v=>R (.ok (.ret v)) c) (notedBy M A a λe b=>R (.error e) b) d) (notedBy M A a λe b=>R (.error e) b) s
def Jr (M:Model) (A:Around) (R:Result->Shared->Prop) (f:Expr) (c:Value) (body:List Stmt) (a:Env) (I:Nat->Shared->Prop) (n:Nat) (s:Shared):Prop:=
 wpAny M A (pyNext c) (λr d=>match r with
   |none=>R (.ok .next) d
   |some v=>wpAny M A (letOwnedTupleGo f c v) (λO g=>Dy M A R f body a I n v g) (notedBy M A a λe b=>R (.error e) b) d) (notedBy M A a λe b=>R (.error e) b) s
theorem Um {body:List Stmt}(I:Nat->Shared->Prop)(m:∀n s,I n s->Jr (model k w) A R i g body c I n s)(n:Nat)(h:I n s):codeAny (model k w) A (.forLoop i g body [] c) R s:=by
 refine codeAny_loop' rfl I (λn s j=>?_) n h;refine(?_:wpAny _ _ ((forTurn i g body [] c).onRaise (λx=>do noteFrame x c;theTreesLotGoes x)) _ _ s);refine wpAny_noted ?_;simp only[forTurn];refine ae (il (ae (wpAny_onRaise (bM (m n s j) (λr p e=>?_) λO O a=>il a))));cases r with
 |none=>exact aU (.inr ⟨rfl,codeAny_block (uV e)⟩)
 |some v=>
  refine ae (bM e (λO l d=>?_) λO O a=>a);refine ae (bM d (λO l d=>ae (bM d (λf q b=>?_) λO O a=>a)) λO O a=>a);cases f with
  |next=>exact aU (.inl ⟨rfl,b⟩)
  |cont=>exact aU (.inl ⟨rfl,b⟩)
  |brk=>exact aU b
  |ret v=>exact aU b
section
variable {rs:List (Str×Nat)}
def d9 (P:Addr->Prop) (c:Heap) (Y:AH) (L:Addr->Addr):Prop:=∀b,P b->c.get? b=none/\¬bF Y L b
theorem d9.out (e:bk D d Y L h)(f:LR u rs Y L C h)(pv:d9 P h j i)(x:P b):¬fN u b/\b∉cM d:=by have n:=(pv b x).1;exact⟨λy=>(f.c0 y).1 n,λm=>by obtain⟨O,o,c,O⟩:=m6 e.frames b m;rw[n] at c;injection c⟩
theorem d9.Js (f:bk D d Y L h)(l:LR u rs Y L C h)(pv:d9 P h r n)(i:∀b,P b->c.get? b≠none)(g:cE D d u r n c v p j):d9 P h v p/\∀b o,P b->c.get? b=some o->j.get? b=some o:=by exact⟨λb x=>⟨(pv b x).1,λo=>(g.eM b o).elim (pv b x).2 (i b x)⟩,λb o x e=>(Ka (pv.out f l x) λn1 m=>g.bh.aa b o e (λy=>y.elim (pv b x).2 n1) m)⟩
theorem d9.iC (st:df D d u rs)(r:bk D d Y L h)(y:LR u rs Y L C h)(g:cE D d u Y L h j i c)(pv:d9 P h j i)(ch:j7 P c f)(t:cb c f):cE D d u Y L h j i f/\∀p,LR u rs j i p c->LR u rs j i p f:=by
 have same:∀b,h.get? b≠none->f.get? b=c.get? b:=λb n=>by
  cases q:c.get? b with
  |none=>exact absurd (g.bh.bO b q) n
  |some o=>exact ch b o q ((λb n x=>n (pv b x).1:∀b,h.get? b≠none->¬P b) b n)
 refine⟨cE.sZ r g (λb o=>?_) (λb o e O O=>same b (c0 e)) st.dU (λb o e m=>?_) (λb e=>?_) t,λp l=>l.sY (λb o x e=>⟨o.slots,(same b (y.c0 x).1).trans e⟩) t⟩
 ·obtain⟨z,v,O⟩:=g.ak.mt.kind o
  exact(ch b z v λx=>(pv b x).2 o).trans v.symm
 ·obtain⟨O,H,k,O⟩:=m6 r.frames b m
  exact gD o ((same b (c0 k)).trans e) (λO=>⟨o.slots,rfl⟩) (λw=>w)
 ·cases q:h.get? b with
  |none=>rfl
  |some o=>exact absurd (g.bh.bO b ((same b (c0 q)).symm.trans e)) (c0 q)
theorem j7.lX (S:gy D d A t I P items g J)(j:J i e)(ch:j7 P e h):cb e h:=λc m z=>by exact ai (id z) λo f r=>aQ o (ch c o f λl=>S.qZ _ _ j c l m z) r
theorem Jt {l:List f}(h:l[i]? =some x):l.drop i=x::l.drop (i+1):=by refine Ke (kH.mp h) λc e=>?_;exact B (List.drop_eq_getElem_cons c) (B e rfl)
inductive wQ (D:Cx)(d:List Env)(u:Env)(rs:List (Str×Nat))(Y:AH)(L:Addr->Addr)(s:Shared)(P:Addr->Prop)(J:Nat->Heap->Prop)(items:List PV)(g:AH->Prop)(H:PV->aP->AH->(Fl->aP->AH->Prop)->Prop)(Q:Fl->aP->AH->Prop)(n:Nat)(p:Shared):Prop
 |mk (i:Nat) (m:aP) (c:AH) (h:Addr->Addr) (f:Heap) (r:Nat) (e:p=aa s f r) (v:n=items.length-i) (w:cE D d u Y L s.heap c h f) (l:LR u rs c h m f) (j:J i f) (pv:d9 P s.heap c h) (x:g c) (y:jA H g Q (items.drop i) m c)
abbrev Dz (D:Cx) (d:List Env) (u:Env) (rs:List (Str×Nat)) (A:Around) (Y:AH) (L:Addr->Addr) (s:Shared) (Q:Fl->aP->AH->Prop) (X:XR):Result->Shared->Prop:=λr c=>match r with|.ok f=>cB D d u rs Y L s Q f c|.error e=>cameBackBy (model D.prog D.w) A u (dW D d u rs Y L s X) e c
section
variable {wt:WT}
 (st:df D d u rs) (a:jE D d u rs N q t wt) (k:fy D d u rs N q b M) (U:dR D d u rs N q A Y L C s) (S:gy D d A t I P items g J)
include st a k U S
theorem Uo (q7:i<items.length)(n:cE D d u Y L s.heap y δ₁ l)(l3:LR u rs y δ₁ e l)(j3:J (i+1) l)(pv:d9 P s.heap y δ₁)(rv:ag l v x)
  (hf:wt x e (λC Y=>M C (λf e j=>match f with|.next=>g j/\jA (λx C Y K=>wt x C (λC Y=>M C K X Y) (λc t=>X c t C) Y) g Q (items.drop (i+1)) e j|.cont=>g j/\jA (λx C Y K=>wt x C (λC Y=>M C K X Y) (λc t=>X c t C) Y) g Q (items.drop (i+1)) e j|.brk=>Q .next e j|.ret p=>Q (.ret p) e j) X Y) (λc t=>X c t e) y):
  Dy (model D.prog D.w) A (Dz D d u rs A Y L s Q X) t b u (wQ D d u rs Y L s P J items g (λx C Y K=>wt x C (λC Y=>M C K X Y) (λc t=>X c t C) Y) Q) (items.length-i) v (aa s l eO):=by
 have hE:=passes (M:=model D.prog D.w) (X:=X) st U.ok.frames U.I U.l;refine bM (a v x e _ _ y A δ₁ (aa s l eO) (U.oD n l3 eO) rv hf) (λO zZ Up=>?_) λO O x=>hE _ _ ((x.bp l3 n.ak).b9 n);obtain⟨Uq,j8,Ju,iD,qX,rfl,H,l4,z4⟩:=Up;obtain⟨cc,k4⟩:=pv.Js U.I U.l (S.c0 _ _ j3) H;have j4:=S.bh _ _ _ j3 (λb o=>k4 b o) H.av;have z:=n.trans H;refine bM (k Uq _ X j8 A Ju (aa s iD qX) (U.oD z l4 qX) z4) (λf z9 Ur=>?_) λO O x=>hE _ _ (x.b9 z);obtain⟨fl,Jv,oH,DA,k7,nh,rfl,G,w,r5,h⟩:=Ur;obtain⟨cT,k5⟩:=cc.Js U.I U.l (S.c0 _ _ j4) G;have j5:=S.bh _ _ _ j4 (λb o=>k5 b o) G.av;have m:=z.trans G
 induction r5 using jD.casesOn with
 |next=>exact aQ _ (Nat.sub_succ_lt_self _ _ q7) ⟨i+1,Jv,oH,DA,k7,nh,rfl,rfl,m,w,j5,cT,h.1,h.2⟩
 |cont=>exact aQ _ (Nat.sub_succ_lt_self _ _ q7) ⟨i+1,Jv,oH,DA,k7,nh,rfl,rfl,m,w,j5,cT,h.1,h.2⟩
 |brk=>exact(cB.now m w .next h)
 |ret r=>exact(cB.now m w (.ret r) h)
theorem Us {H:Shared}(z:wQ D d u rs Y L s P J items g (λx C Y K=>wt x C (λC Y=>M C K X Y) (λc t=>X c t C) Y) Q n H):
  Jr (model D.prog D.w) A (Dz D d u rs A Y L s Q X) t (.ref I) b u (wQ D d u rs Y L s P J items g (λx C Y K=>wt x C (λC Y=>M C K X Y) (λc t=>X c t C) Y) Q) n H:=by
 obtain⟨i,fO,σ',δ',y,G,rfl,rfl,h,l,j,pv,w,e⟩:=z;cases f:items[i]? with
 |none=>refine S.done i σ' δ' (aa s y G) _ _ h.ak w j f λeX eO ch=>?_;have e:=(BE (lD.mp f))▸e;refine Ka (d9.iC st U.I U.l h pv ch (ch.lX S j)) λm p=>?_;exact(cB.now m (p _ l) .next e)
 |some x=>
  have e:=(Jt f)▸e;refine bM (S.next i x σ' δ' (aa s y G) (Dy (model D.prog D.w) A (Dz D d u rs A Y L s Q X) t b u (wQ D d u rs Y L s P J items g (λx C Y K=>wt x C (λC Y=>M C K X Y) (λc t=>X c t C) Y) Q) (items.length-i)) (notedBy (model D.prog D.w) A u (cameBackBy (model D.prog D.w) A u (dW D d u rs Y L s X))) (notedBy (model D.prog D.w) A u (cameBackBy (model D.prog D.w) A u (dW D d u rs Y L s X))) h.ak w j f λv eX eO rv j3 ch tp=>?_) (λr wR z=>?_) λO O z=>z
  rotate_left 1
  ·cases r with
   |none=>exact z.elim
   |some v=>exact z
  ·refine Ka (d9.iC st U.I U.l h pv ch tp) λm p=>?_
   exact Uo st a k U S (kH.mp f).1 m (p _ l) j3 pv rv e
end
theorem Jw (st:df D d u rs){wt:WT}(pos:Pos)(p:∀x,foldedSetIterable f u x=pure x)
  (a:jE D d u rs N q t wt) (m:gM D d u rs N q t f wi) (k:fy D d u rs N q b M):
  Sx D d u rs N q (.For t f b [] pos) (λC Q X Y=>q=false/\wi C (λitems g Y=>jA (λx C Y K=>wt x C (λC Y=>M C K X Y) (λc t=>X c t C) Y) g Q items C Y) (λc t=>X c t C) Y):=λC Q X Y A L s U h=>by
 refine wpAny_For (bM (m C _ _ Y A L s h.1 U h.2) (λv s' x=>?_) λO O x=>x.bp U.l U.I) p;obtain⟨items,g,cN,δ₁,h₁,iT,rfl,e,w,j,l⟩:=x;refine w _ _ λI P J r S y H i pI=>?_;have G:=e.trans (Go.ext e.ak H);exact Um (wQ D d u rs Y L s P J items g (λx C Y K=>wt x C (λC Y=>M C K X Y) (λc t=>X c t C) Y) Q) (λn s' z=>Us st a k U S z) (items.length-0) ⟨0,C,cN,δ₁,r,iT,rfl,rfl,G.bp U.I,U.l.go U.I G,y,i,j,l⟩
inductive Ut (D:Cx)(d:List Env)(u:Env)(rs:List (Str×Nat))(Y:AH)(L:Addr->Addr)(s:Shared)(I:Nat->aP->AH->Prop)(n:Nat)(j:Shared):Prop
 |mk (i:aP) (f:AH) (h:Addr->Addr) (c:Heap) (m:Nat) (e:j=aa s c m) (g:cE D d u Y L s.heap f h c) (l:LR u rs f h i c) (z:I n i f)
theorem Uu (st:df D d u rs)(pos:Pos)(pP:Tx D d u rs N q c wc)(k:fy D d u rs N q b M):
  Sx D d u rs N q (.While c b [] pos) (λC Q X Y=>vV (λC Y K=>wc C K (λc t=>X c t C) Y) (λC Y K=>M C K X Y) Q C Y):=λC Q X Y A L s U h=>by
 refine fj h λI n hI Uv=>?_;have hE:=passes (M:=model D.prog D.w) (X:=X) st U.ok.frames U.I U.l;refine wpAny_While (codeAny_whileLoop (Ut D d u rs Y L s I) (λn s' z=>?_) n ⟨C,Y,L,s.heap,s.toks,rfl,cE.refl U.I,U.l,hI⟩);obtain⟨H,σ',δ',h',tk,rfl,g,l,hi⟩:=z;refine bM (pP H _ _ σ' A δ' (aa s h' tk) (U.oD g l tk) (Uv n H σ' hi)) (λv wR x=>?_) λe s' x=>hE _ _ ((cD.bp l g.ak x).b9 g);obtain⟨p,bX,eW,dH,dI,rfl,iE,r,z⟩:=x;rw[←(r:v=p)] at z;have G:=g.trans (iE.bp g.ak);have pR:=l.go g.ak iE;cases v
 ·exact uV (cB.now G pR .next z)
 ·refine bM (k H _ X bX A eW (aa s dH dI) (U.oD G pR dI) z) (λf wU x=>?_) λe s' x=>hE _ _ (x.b9 G)
  obtain⟨fl,Jx,d8,qU,eX,eO,rfl,qY,w,DB,i⟩:=x;have j:=G.trans qY
  induction DB using jD.casesOn with
  |next=>exact ai i λm y i=>aQ m y ⟨Jx,d8,qU,eX,eO,rfl,j,w,i⟩
  |cont=>exact ai i λm y i=>aQ m y ⟨Jx,d8,qU,eX,eO,rfl,j,w,i⟩
  |brk=>exact cB.now j w .next i
  |ret r=>exact cB.now j w (.ret r) i
end
def Jy (M:Model) (A:Around) (R:Result->Shared->Prop) (k i:Expr) (l:List Expr) (f j:Value) (b:Env) (I:Nat->Shared->Prop) (n:Nat) (s:Shared):Prop:=
 wpAny M A (pyNext f) (λr g=>match r with
   |none=>R (.ok .next) g
   |some v=>wpAny M A (letOwnedTupleGo i f v) (λO d=>wpAny M A (assign i b v) (λO d=>
     wpAny M A (forIn l true λc r=>if r=true then do let ok←isTrue c b (eval c b);pure (ForInStep.yield ok) else pure (ForInStep.yield r)) (λok h=>
      if ok=true then wpAny M A (eval k b) (λx p=>wpAny M A (call (.builtin "list.append") [j,x]) (λO q=>∃m,m<n/\I m q) (notedBy M A b λe a=>R (.error e) a) p) (notedBy M A b λe a=>R (.error e) a) h
      else∃m,m<n/\I m h) (notedBy M A b λe a=>R (.error e) a) d) (notedBy M A b λe a=>R (.error e) a) d) (notedBy M A b λe a=>R (.error e) a) g) (notedBy M A b λe a=>R (.error e) a) s
theorem Uw (I:Nat->Shared->Prop)(y:∀n s,I n s->Jy (model t w) A R e j g i d c I n s)
  (n:Nat) (h:I n s):codeAny (model t w) A (.compLoop (.ListComp e [⟨j,iter,g,0⟩] scope q) 0 i d c) R s:=by
 refine codeAny_loop rfl I (λn s k=>((wpAny_noted ?_):wpAny _ A ((compTurn (.ListComp e [⟨j,iter,g,0⟩] scope q) 0 i d c).onRaise (λx=>do noteFrame x c;theTreesLotGoes x)) _ _ s)) n h;rw[compTurn_list];refine ae (il (ae (bM (y n s k) (λr z b=>?_) λO O a=>a)));cases r with
 |none=>exact aU b
 |some v=>
  refine ae (bM b (λO u b=>ae (bM b (λO u l=>ae (bM l (λok H f=>?_) λO O a=>a)) λO O a=>a)) λO O a=>a);cases ok with
  |false=>exact aU ⟨rfl,f⟩
  |true=>exact ae (ae (bM f (λx C m=>ae (bM m (λO D p=>aU (aU ⟨rfl,p⟩)) λO O a=>a)) λO O a=>a))
noncomputable def nq (a:Env)(l:List (Str×NameKind)):List (Str×Addr):=(l.filterMap λy=>if(y.2==.free)=true then some (y.1,(a.cells.lookup y.1).getD 0) else none).reverse
theorem Ux (h:∀y∈names,y.2=.free->∃c,d.cells.lookup y.1=some c):∀acc:List (Str×Addr),
  (forIn names acc λ(x:Str×NameKind) (b:List (Str×Addr))=>(match x with|(name,i)=>if(i==NameKind.free)=true then do let c←cellOf d name;pure (ForInStep.yield ((name,c)::b)) else pure (ForInStep.yield b):Sem (ForInStep (List (Str×Addr)))))=pure (nq d names++acc):=by
 induction names with
 |nil=>exact λO=>rfl
 |cons y r g=>
  intro acc;have a:=g λy m=>h y (.tail _ m);unfold nq at a⊢;rw[List.forIn_cons,mK];dsimp only;cases f:(y.2==NameKind.free) with
  |true=>obtain⟨c,e⟩:=h y (.head _) (bG.mp f);rw[aG rfl,aG rfl,e,List.reverse_cons,e6];unfold cellOf;exact B e (a _)
  |false=>exact a _
theorem tD {l:List (Str×a)}(h:l.lookup x=some c):(x,c)∈l:=by exact fj (uG.mp h) λO O e O=>B e (fX _ bP)
theorem Jz:p∈nq a l↔∃y∈l,(if(y.2==.free)=true then some (y.1,(a.cells.lookup y.1).getD 0) else none)=some p:=List.mem_reverse.trans List.mem_filterMap
theorem Uy (h:(x,NameKind.free)∈names):∃d,(nq env names).lookup x=some d:=by
 cases e:(nq env names).lookup x with
 |some d=>exact⟨d,rfl⟩
 |none=>exact absurd (ej x) (bne_iff_ne.mp (rX.mp e _ (Jz.mpr ⟨_,h,rfl⟩)) rfl).elim
theorem Uz {f:Str×NameKind->Str×NameKind}(a:∀y,(f y).1=y.1){names:List (Str×NameKind)}(h:names.lookup x=some k):(names.map f).lookup x=some (f (x,k)).2:=by
 induction names with
 |nil=>cases h
 |cons y r b=>
  rw[d0] at h;rw[c3,d0,a];cases q:x==y.1 with
  |true=>rw[q] at h;have h:=bo h;refine az h ?_;rw[bG.mp q]
  |false=>rw[q] at h;exact b h
theorem UA {a:Env}{names:List (Str×NameKind)}(h:names.lookup x=some .free):
  (names.map λ(n,k)=>if(k==NameKind.free&&a.scope.kind==.function&&a.kindOf n==some .cell) then(n,NameKind.cell) else(n,k)).lookup x=some .cell∨
  (names.map λ(n,k)=>if(k==NameKind.free&&a.scope.kind==.function&&a.kindOf n==some .cell) then(n,NameKind.cell) else(n,k)).lookup x=some .free:=by
 refine B (Uz (λy=>by dsimp only;split<;>rfl) h) ?_;dsimp only;cases(NameKind.free==NameKind.free&&a.scope.kind==.function&&a.kindOf x==some .cell) with
 |true=>exact .inl rfl
 |false=>exact .inr rfl
section
variable {rs f:List (Str×Nat)}
theorem LR.comp {scope:Scope}{C:Addr}(l:LR g rs Y A n h)(j:scope.kind=.function)(w:h.Ns C m)(N:¬bF Y A C)(Q:∀y c,g.cells.lookup y=some c->c≠C)(t:p.length=n.length)
  (I:∀y∈scope.names,y.2=.free->∃c,g.cells.lookup y.1=some c)
  (L:∀x i,f.lookup x=some i->(scope.names.lookup x=some .local/\i<n.length/\kW h (m x) (p.getD i none))∨(scope.names.lookup x=some .free/\rs.lookup x=some i/\(g.kindOf x=some .cell∨g.kindOf x=some .free)/\p.getD i none=n.getD i none)):
  LR (compEnvC scope (nq g scope.names) C g) f Y A p h:=by
 have sub:∀x c,(nq g scope.names).lookup x=some c->g.cells.lookup x=some c:=λx c e=>(by
    refine ai (Jz.mp (tD e)) λy m e=>?_;cases j:(y.2==NameKind.free) with
    |true=>refine Ke (I y m (bG.mp j)) λd q=>?_;rw[j,aG rfl,q] at e;cases e;exact q
    |false=>rw[j,aH dz] at e;injection e)
 have cl:(compEnvC scope (nq g scope.names) C g).cells=nq g scope.names:=rfl;refine⟨j,λx i e=>?_,N,?_,λx c e=>?_,λx c y e G=>l.pK x c y (sub x c e) (sub y c G),l.cH,l.blt⟩
 ·rcases L x i e with⟨a,b,r⟩|⟨a,b,k,r⟩
  ·exact⟨by refine B t ?_;exact b,.dU (yv a) m w r⟩
  ·refine Ka (l.af x i b) λH v=>⟨by refine B t ?_;exact H,?_⟩
   rcases v with⟨z,_⟩|⟨_,c,u,U,M,r'⟩
   ·exact k.elim (λk=>nomatch ss k z) λk=>nomatch ss k z
   ·refine .cell (UA a) c u (Ke (Uy (env:=g) (tD a)) λD s=>?_) M (by exact B r r')
    have:=sub x D s;rw[U] at this;have this:=bo this;refine B this ?_;exact s
 ·exact iY w λo O O J O=>Internal.c0 J
 ·exact⟨Q x c (sub x c e),(l.cells x c (sub x c e)).2⟩
end
def CT (d:Cx) (h:List Env) (q:Bool) (scope:Scope) (t:Expr) (tn:List (Str×Nat)) (wt:WT):Prop:=
 ∀(C:Addr) (f:List (Str×Addr)) (g:Env) (v:Value) (p:PV) (b:aP) (K:aP->AH->Prop) (X:XP) (Y:AH) (A:Around) (l:Addr->Addr) (s:Shared) (E:Value->Shared->Prop) (m:Str->Option Value) (Q:Shared->Prop),(q=false->A.handled=none)->bk d h Y l s.heap->s.heap.Ns C m->ag s.heap v p->wt p b K X Y->
  (∀a k e c,j7 (·=C) s.heap a->a.Ns C e->(cb s.heap a)->c.length=b.length->(∀x i,tn.lookup x=some i->i<b.length/\kW a (e x) (c.getD i none))->(∀j,(∀x,(x,j)∉tn)->c.getD j none=b.getD j none)->K c Y->Q (aa s a k))->
  wpAny (model d.prog d.w) A (assign t (compEnvC scope f C g) v) (λO=>Q) E s
theorem tE (e:h.Ns C m)(g:Heap.SameBut C h c):cb h c:=mZ g λl t=>by refine jr e λo j i f d O=>oY t λk a O n b=>?_;rw[f] at a;have a:=bo a;subst a;rw[d] at b;injection b
section
theorem DC {va:Value}(e:o=some va)(c:ag b va a):kW b o (some a):=λu q=>aQ va e (Option.some.inj q▸c)
theorem DE {r:List (Str×a)}(e:((x,i)::r).lookup y=some j):(y=x/\i=j)∨r.lookup y=some j:=by
 rw[d0] at e;cases h:y==x with
 |true=>rw[h] at e;have e:=bo e;exact B e (.inl ⟨bG.mp h,rfl⟩)
 |false=>rw[h] at e;exact .inr e
theorem UB (u:Pos)(g:scope.kind=.function)(r:scope.names.lookup x=some .local):CT H G q scope (.Name x u) [(x,i)] (λv a K O Y=>i<a.length/\K (a.set i (some v)) Y):=λC z D v p a K X Y A J s E m Q U I c w h k=>by
 refine uS (yo (yv r) c (λf l d=>?_) (by simp[compEnvC,relabel,g]));have t:=tE c d;refine k f _ _ (a.set i (some p)) (λb o e n=>(d.2 b n).trans e) l t (o6 ..) (λy j e=>?_) (λj n=>?_) h.2
 ·rcases DE e with⟨e1,e2⟩|e
  ·exact az e2 (B e1 ⟨h.1,B (show(a.set i (some p)).getD i none=some p by rw[qW h.1,aG rfl]) (DC (aG rfl) (ag.bU t w))⟩)
  ·injection e
 ·exact B (qW h.1) (B (aH λe=>n x (by rw[e];exact eR.mpr rfl)) rfl)
inductive UC (h:Heap)(c:List Value)(a b:PV):Prop
 |mk (va vb:Value) (e:c=[va,vb]) (d:ag h va a) (f:ag h vb b)
theorem aJ.jy (r:aJ h e [a,b]):UC h e a b:=by obtain⟨va,f,e1,c,r⟩:=r.un;obtain⟨vb,g,e2,d,r⟩:=r.un;exact⟨va,vb,B e1 (B e2 (B r.vm rfl)),c,d⟩
section
variable {c:aP}
theorem UD {va vb:Value}{m:Str->Option Value}(h:i≠j)(f:i<c.length)(g:j<c.length)(k:m x=some va)(n:m y=some vb)(p:ag d va a)(q:ag d vb b)(e:([(x,i),(y,j)]:List (Str×Nat)).lookup z=some l):
  l<c.length/\kW d (m z) (((c.set i (some a)).set j (some b)).getD l none):=by
 refine B (qW (by rw[o6];exact g)) (B (qW f) ?_);rcases DE e with⟨e1,e2⟩|e
 ·exact B e1 (az e2 (B (aH (jT h)) (B (aG rfl) ⟨f,DC k p⟩)))
 ·rcases DE e with⟨e1,e2⟩|e
  ·exact B e1 (az e2 (B (aG rfl) ⟨g,DC n q⟩))
  ·injection e
end
theorem UE (p1 p2:Pos)(x1:Nat)(pos:Pos)(hk:scope.kind=.function)(hx:scope.names.lookup x=some .local)(hy:scope.names.lookup y=some .local)(UG:x≠y)(wI:i≠j):
  CT cx envs q scope (.Tuple [.Name x p1,.Name y p2] x1 pos) [(x,i),(y,j)] (λv c K O Y=>q=false/\v.jW (λps=>∃a b,ps=[a,b]/\i<c.length/\j<c.length/\K ((c.set i (some a)).set j (some b)) Y) False):=λC d f v p c K X Y A δ s E m Q hh I hm rv h k=>by
 refine zk rv h.2 λz g ps L hr r=>lA r λa b e H D r=>?_;obtain⟨va,vb,e,ra,rb⟩:=(e▸hr).jy;rw[e] at L;refine wpAny_assign_Tuple (items:=#[va,vb]) (hh h.1) L rfl rfl λt k₁=>?_;have u:fp s.heap t:=λb o e=>k₁ b o (kO (o9 e)) e;have N:t.Ns C m:=hm.at' λo e=>u C o e;have nn:((compEnvC scope d C f).scope.kind==.class||(compEnvC scope d C f).scope.kind==.module&&(compEnvC scope d C f).locals !=(compEnvC scope d C f).globals)=false:=by simp[compEnvC,relabel,hk]
 refine yk (uS (yo (s:=aa s t s.toks) (yv hx) N (λdH G U=>yk (uS (yo (s:=aa s dH (s.toks+1)) (yv hy) G (λM UH J=>?_) nn))) nn));have w:cb s.heap M:=λa g z=>tE G J a g (tE N U a g (lY u a g z));exact yj (k M _ _ ((c.set i (some a)).set j (some b)) (λb o e n=>(J.2 b n).trans ((U.2 b n).trans (u b o e))) UH w (B o6 (B o6 rfl)) (λz l e=>UD (m:=λz=>if z=y then some vb else if z=x then some va else m z) wI H D ((aH UG).trans (aG rfl)) (aG rfl) (ag.bU w ra) (ag.bU w rb) e) (λl n=>(by exact B (qW (by rw[o6];exact D)) (B (qW H) (B (aH λe=>n y (by rw[e];exact .tail _ (.head _))) (B (aH λe=>n x (by rw[e];exact .head _)) rfl))))) r)
end
def wV (a:Cx) (d:List Env) (b:Env) (rs:List (Str×Nat)) (g:Nat) (q:Bool) (h:List Expr) (w:WB):Prop:=
 ∀(f:aP) (Q:Bool->AH->Prop) (X:XP) (Y:AH) (A:Around) (e:Addr->Addr) (s:Shared),dR a d b rs g q A Y e f s->w f Q X Y->
  wpAny (model a.prog a.w) A (forIn h true λc r=>if r=true then do let ok←isTrue c b (eval c b);pure (ForInStep.yield ok) else pure (ForInStep.yield r)) (CL a d Y e s Q) (cD a d Y e s X) s
section
variable {M:Cx}{d:List Env}{l:Env}{rs v:List (Str×Nat)}{hc:Nat}{q:Bool}{Y N bX:AH}{k u e:Addr->Addr}{h p w:Heap}{P:Addr->Prop}
theorem d9.q8 (G:bk M d Y k h)(g:Go M d Y k h N u p)(pv:d9 P h N u)(ch:j7 P p w)(t:cb p w):Go M d Y k h N u w:=by
 have n:∀b o,h.get? b=some o->∃c,p.get? b=some c/\w.get? b=some c:=λb o j=>by
  cases q:p.get? b with
  |none=>exact nn (g.bh.bO b q) j
  |some c=>exact⟨c,rfl,ch b c q λx=>nn (pv b x).1 j⟩
 refine Go.sZ G g (λb o=>?_) (λb o j=>?_) (λb j=>?_) t
 ·obtain⟨U,r,O⟩:=g.ak.mt.kind o
  exact B r (ch b U r λx=>(pv b x).2 o)
 ·exact ai (n b o j) λc e1 e2=>B e1 (B e2 rfl)
 ·cases q:h.get? b with
  |none=>rfl
  |some o=>exact ai (n b o q) λc e1 e2=>nn j e2
theorem d9.JA (c:bk M d Y k h)(pv:d9 P h N u)(j:∀b,P b->p.get? b≠none)(g:Go M d N u p bX e w):d9 P h bX e/\∀b o,P b->p.get? b=some o->w.get? b=some o:=by refine⟨λb x=>⟨(pv b x).1,λo=>(g.eM b o).elim (pv b x).2 (j b x)⟩,λb o x n=>?_⟩;exact g.bh.aa b o n (pv b x).2 λm=>by obtain⟨O,o,r,O⟩:=m6 c.frames b m;exact nn ((pv b x).1) r
theorem gK.DF {h₀:Heap}{r:Addr}{c:Cl}{t:PV}(G:gK M h₀ Y k h r c t)(ch:j7 P h p)(n:∀b,P b->h₀.get? b≠none)(Q:cb h p):gK M h₀ Y k p r c t:=
 G.map (λO j=>j) (λb U z0 j=>ch b U j λx=>n b x z0) Q
theorem oF.DF {h₀:Heap}{c:Addr}(j:oF h c)(ch:j7 P h p)(n:¬P c):oF p c:=by exact jr j λo U T r x G=>qq o U T (ch c o r n) x G
theorem UI {A:Around}{C:Addr}{f:Value}{X:XP}{s:Shared}{m:Str->Option Value}{cl:List (Str×Addr)}{scope:Scope}{aZ:Option (Value->Sem Unit)}{Q:Value->Shared->Prop}{tk₁:Nat}{M0:Model}(gL:∃e0 r L2,d=e0::r/\e0.frame=some L2/\l.frame=some L2)(zV:A.frames=some d)
  (I0:bk M d Y k s.heap) (g:Go M d Y k s.heap N u p) (hC:p.Ns C m) (pC:s.heap.get? C=none/\¬bF N u C) {j:Value} {s':Shared} (x:cD M d N u (aa s p tk₁) X j s'):
  notedBy M0 A (compEnvC scope cl C l) (λj s'=>compPost M0 A (cD M d Y k s X) aZ Q f C (.error j) s') j s':=by
 obtain⟨a0,c,t,bX,e,w,dI,rfl,rfl,iE,f0,z0⟩:=x;refine jr gL λe0 outer L2 hE zW hf=>?_;have aC:p.get? C≠none:=by exact iY hC λo O O U O=>c0 U
 have nC:C∉cM d:=λmm=>by obtain⟨O,o,U,O⟩:=m6 I0.frames C mm;exact nn pC.1 U
 have UJ:w.Ns C m:=by exact iY hC λo es ep U r=>js o es ep (iE.bh.aa C o U pC.2 nC) r
 refine wK (s:=aa s w dI) (env:=compEnvC scope cl C l) hE zV zW hf g.ak iE.ak iE.bh.bO f0 λeX DG tr=>?_;have JB:eX.Ns C m:=by exact iY UJ λo es ep U r=>js o es ep (DG.same C o U aC nC) r
 refine aQ m JB (λiD Aa md O=>?_);have tp:=tE JB Aa;have ch:j7 (·=C) eX iD:=λb o j n=>(Aa.2 b n).trans j;have UK:d9 (·=C) s.heap bX e:=λb j=>by refine B j ?_;exact⟨pC.1,λo=>(iE.eM _ o).elim pC.2 aC⟩
 have G:=g.trans (iE.mv g.ak DG);have G4:=d9.q8 I0 G UK ch tp;have f4:gK M p bX e iD a0 c t:=DG.j6.DF ch (λb j=>by refine B j ?_;exact aC) tp;have UL:a0≠C:=λq=>by obtain⟨o,dx,es,n,vs,O,O,O,O,O,O,O,p8,O⟩:=f4;rw[q] at p8;exact aC p8
 exact Jl (env:=md) (s:=aa s iD dI) I0 G4.ak (f4.zi g.bh.bO) (oF.DF (h₀:=p) tr ch UL) λk7 wW=>⟨a0,c,t,bX,e,k7,dI,rfl,rfl,G4.mv I0 wW,wW.j6,z0⟩
def nu (wt:WT) (wc:WB) (we:WE) (y:aP) (X:XP) (x:PV) (Y:AH) (K:Option PV->AH->Prop):Prop:=
 wt x y (λy Y=>wc y (λb Y=>if b then we y (λc Y=>K (some c) Y) X Y else K none Y) X Y) X Y
structure wX (l:Env)(rs v:List (Str×Nat))(scope:Scope)(tn:List (Str×Nat)):Prop where
 kind:scope.kind=.function
 cell:∀c∈scope.names,c.2≠.cell
 dU:∀c∈scope.names,c.2=.local->scope.names.lookup c.1=some .local
 free:∀c∈scope.names,c.2=.free->∃i,rs.lookup c.1=some i/\(l.kindOf c.1=some .cell∨l.kindOf c.1=some .free)
 rs:∀x i,v.lookup x=some i->(tn.lookup x=some i/\scope.names.lookup x=some .local)∨(scope.names.lookup x=some .free/\rs.lookup x=some i/\(l.kindOf x=some .cell∨l.kindOf x=some .free)/\∀c,(c,i)∉tn)
noncomputable abbrev wY (z:List Value):Obj:={cls:=.type "list",data:=.seq z.toArray z.length}
structure DH (M:Cx)(d:List Env)(l:Env)(rs v:List (Str×Nat))(hc:Nat)(q:Bool)(A:Around)(Y:AH)(k:Addr->Addr)(y:aP)(s:Shared)(t:Expr)(scope:Scope)(tn:List (Str×Nat))(items:List PV)(g:AH->Prop)(I:Addr)(P:Addr->Prop)(J:Nat->Heap->Prop)(C D:Addr):Prop where
 gL:∃e0 r j,d=e0::r/\e0.frame=some j/\l.frame=some j
 co:wX l rs v scope tn
 free:∀n∈scope.names,n.2=.free->∃c,l.cells.lookup n.1=some c
 U:dR M d l rs hc q A Y k y s
 S:gy M d A t I P items g J
 pC:¬P C
 pD:¬P D
 ne:C≠D
 zC:s.heap.get? C=none
 zD:s.heap.get? D=none
 aI:items.length<=aI
structure iU (M:Cx)(d:List Env)(Y:AH)(k:Addr->Addr)(s:Shared)(P:Addr->Prop)(J:Nat->Heap->Prop)(C D:Addr)(i:Nat)(z:List Value)(f:List PV)(m:Str->Option Value)(r:AH)(n:Addr->Addr)(c:Heap):Prop where
 g:Go M d Y k s.heap r n c
 j:J i c
 pv:d9 (λb=>P b∨b=C∨b=D) s.heap r n
 eD:c.get? D=some (wY z)
 rv:aJ c z f
 hn:c.Ns C m
abbrev md (scope:Scope) (C:Addr) (l:Env):Env:=compEnvC scope (nq l scope.names) C l
section
variable {A:Around}{y fO:aP}{s:Shared}{t:Expr}{scope:Scope}{tn:List (Str×Nat)}{items:List PV}{g:AH->Prop}{I:Addr}{J:Nat->Heap->Prop}{C D:Addr}(H:DH M d l rs v hc q A Y k y s t scope tn items g I P J C D)
 {i:Nat} {z:List Value} {f:List PV} {m m':Str->Option Value} (b:iU M d Y k s P J C D i z f m N u p)
include H b
omit H in
theorem iU.nC:¬bF N u C:=(b.pv C (.inr (.inl rfl))).2
theorem iU.UM {n:Nat}(ch:j7 P p w)(r:cb p w)(j:J n w):iU M d Y k s P J C D n z f m N u w:=
 ⟨d9.q8 H.U.I b.g (λc x=>b.pv c (.inl x)) ch r,j,b.pv,ch D _ b.eD H.pD,aJ.bU r b.rv,b.hn.at' λo G=>ch C o G H.pC⟩
theorem iU.dU (ch:j7 (·=C) p w)(hn:w.Ns C m')(r:cb p w):iU M d Y k s P J C D i z f m' N u w:=
 ⟨d9.q8 (P:=(·=C)) H.U.I b.g (λc n=>n▸b.pv C (.inr (.inl rfl))) ch r,H.S.bh _ _ _ b.j (λc o x n=>ch c o n λq=>H.pC (q▸x)) r,b.pv,ch D _ b.eD (jT H.ne),aJ.bU r b.rv,hn⟩
theorem iU.c0 (c:Addr)(x:P c∨c=C∨c=D):p.get? c≠none:=by
 rcases x with x|x|x
 ·exact H.S.c0 _ _ b.j c x
 ·exact iY b.hn λo O O r O=>λn=>nn (x▸n) r
 ·exact λn=>nn (x▸n) b.eD
theorem iU.go (r:Go M d N u p bX e w):iU M d Y k s P J C D i z f m bX e w:=by
 refine Ka (b.pv.JA H.U.I (b.c0 H) r) λpv x=>?_;have G:=r.bh|>b.g.ak.mt.lX
 exact⟨b.g.trans r,H.S.bh _ _ _ b.j (λc o U n=>x c o (.inl U) n) G,pv,x D _ (.inr (.inr rfl)) b.eD,aJ.bU G b.rv,b.hn.at' λo n=>x C o (.inr (.inl rfl)) n⟩
theorem iU.push {U:Value}{p0:PV}(r:ag p U p0)(Q:Heap.SameBut D p w)(eD:w.get? D=some {cls:=.type "list",data:=.seq (z.toArray.push U) (z.length+1)}):iU M d Y k s P J C D i (z++[U]) (f++[p0]) m N u w:=by
 have G:cb p w:=mZ Q λvs z0=>by exact gk z0 λo' oC pP O=>absurd (Value.type.inj ((br Obj.cls (ss b.eD oC)).trans pP:Value.type "list"=.type "tuple")) dc
 have ch:j7 (·=D) p w:=λc o x n=>(Q.2 c n).trans x;exact⟨d9.q8 (P:=(·=D)) H.U.I b.g (λc x=>x▸b.pv D (.inr (.inr rfl))) ch G,H.S.bh _ _ _ b.j (λc o pc x=>ch c o x λq=>H.pD (q▸pc)) G,b.pv,eD.trans (by unfold wY;rw[bR,List.length_singleton,List.push_toArray]),aJ.append (aJ.bU G b.rv) (.cons (ag.bU G r) .nil),b.hn.at' λo x=>ch C o x H.ne⟩
theorem iU.here {tk:Nat}(hl:fO.length=y.length)(DI:∀x i,tn.lookup x=some i->i<y.length/\kW p (m x) (fO.getD i none))(DJ:∀j,(∀x,(x,j)∉tn)->fO.getD j none=y.getD j none):dR M d (md scope C l) v hc q A N u fO (aa s p tk):=
 ⟨H.U.ok,b.g.ak,LR.comp (H.U.l.go H.U.I b.g) H.co.kind b.hn b.nC (λy0 c U q=>(H.U.l.cells y0 c U).2.1 (q▸H.zC)) hl H.free λG r Q=>(H.co.rs G r Q).imp (λn=>⟨n.2,DI G r n.1⟩) λn=>cZ n.1 n.2.1 n.2.2.1 (DJ r n.2.2.2)⟩
theorem iU.JC {r:Nat}{X:XP}{aZ:Option (Value->Sem Unit)}{Qv:Value->Shared->Prop}{c:Value}{n:Shared}(x:cD M d N u (aa s p r) X c n):notedBy (model M.prog M.w) A (md scope C l) (λc n=>compPost (model M.prog M.w) A (cD M d Y k s X) aZ Qv (.ref D) C (.error c) n) c n:=
 UI H.gL H.U.ok.frames H.U.I b.g b.hn ⟨H.zC,b.nC⟩ x
end
inductive Ab (M:Cx)(d:List Env)(Y:AH)(k:Addr->Addr)(s:Shared)(P:Addr->Prop)(J:Nat->Heap->Prop)(C D:Addr)(items:List PV)(g:AH->Prop)(T:PV->AH->(Option PV->AH->Prop)->Prop)(F:List PV->AH->Prop)(n:Nat)(r:Shared):Prop
 |mk (i:Nat) (z:List Value) (f:List PV) (m:Str->Option Value) (c:AH) (G:Addr->Addr) (j:Heap) (x:Nat) (U:r=aa s j x) (Q:n=items.length-i) (b:iU M d Y k s P J C D i z f m c G j) (gg:g c) (hf:mY T g (items.drop i) f c F) (l1:z.length<=i) (l2:i<=items.length)
section
variable {A:Around}{y:aP}{s:Shared}{t a:Expr}{L:List Expr}{scope:Scope}{tn:List (Str×Nat)}{items:List PV}{g:AH->Prop}{I:Addr}{J:Nat->Heap->Prop}{C D:Addr}{wt:WT}{wc:WB}{we:WE}{X:XP}{F:List PV->AH->Prop}{aZ:Option (Value->Sem Unit)}{Qv:Value->Shared->Prop}
 (H:DH M d l rs v hc q A Y k y s t scope tn items g I P J C D) (hq:q=false) (hT:CT M d q scope t tn wt) (nx:∀cl C,wV M d (compEnvC scope cl C l) v hc q L wc) (he:∀cl C,Ex M d (compEnvC scope cl C l) v hc q a we)
abbrev BN (M:Cx) (d:List Env) (l:Env) (A:Around) (Y:AH) (k:Addr->Addr) (s:Shared) (X:XP) (aZ:Option (Value->Sem Unit)) (Qv:Value->Shared->Prop) (scope:Scope) (C D:Addr):Value->Shared->Prop:=notedBy (model M.prog M.w) A (md scope C l) λc j=>compPost (model M.prog M.w) A (cD M d Y k s X) aZ Qv (.ref D) C (.error c) j
def JD (M:Cx) (d:List Env) (l:Env) (A:Around) (Y:AH) (k:Addr->Addr) (s:Shared) (X:XP) (aZ:Option (Value->Sem Unit)) (Qv:Value->Shared->Prop) (scope:Scope) (C D:Addr) (t a:Expr) (L:List Expr) (P:Addr->Prop) (J:Nat->Heap->Prop) (items:List PV) (g:AH->Prop) (T:PV->AH->(Option PV->AH->Prop)->Prop) (F:List PV->AH->Prop) (i:Nat) (Q:Value) (j:Shared):Prop:=
 wpAny (model M.prog M.w) A (assign t (md scope C l) Q) (λO j=>wpAny (model M.prog M.w) A (forIn L true λc r=>if r=true then do let ok←isTrue c (md scope C l) (eval c (md scope C l));pure (ForInStep.yield ok) else pure (ForInStep.yield r)) (λok n=>
  if ok=true then wpAny (model M.prog M.w) A (eval a (md scope C l)) (λx G=>wpAny (model M.prog M.w) A (call (.builtin "list.append") [.ref D,x]) (λO U=>∃m,m<items.length-i/\Ab M d Y k s P J C D items g T F m U) (BN M d l A Y k s X aZ Qv scope C D) G) (BN M d l A Y k s X aZ Qv scope C D) n
  else∃m,m<items.length-i/\Ab M d Y k s P J C D items g T F m n) (BN M d l A Y k s X aZ Qv scope C D) j) (BN M d l A Y k s X aZ Qv scope C D) j
include H hq hT nx he in
theorem UN {i:Nat}{z:List Value}{f:List PV}{m:Str->Option Value}{h':Heap}{tk:Nat}{x:PV}(b:iU M d Y k s P J C D i z f m N u h')(gg:g N)(l1:z.length<=i)(hx:items[i]? =some x)(hf:nu wt wc we y X x N λo σ'=>g σ'/\mY (nu wt wc we y X) g (items.drop (i+1)) (f++o.toList) σ' F){Φ:Option Value->Shared->Prop}
  (UO:∀c G,wpAny (model M.prog M.w) A (letOwnedTupleGo t (.ref I) c) (λO=>JD M d l A Y k s X aZ Qv scope C D t a L P J items g (nu wt wc we y X) F i c) (BN M d l A Y k s X aZ Qv scope C D) G->Φ (some c) G):
  wpAny (model M.prog M.w) A (pyNext (.ref I)) Φ (BN M d l A Y k s X aZ Qv scope C D) (aa s h' tk):=by
 have n:=(kH.mp hx).1;refine bM (H.S.next i x N u (aa s h' tk) (JD M d l A Y k s X aZ Qv scope C D t a L P J items g (nu wt wc we y X) F i) (BN M d l A Y k s X aZ Qv scope C D) (BN M d l A Y k s X aZ Qv scope C D) b.g.ak gg b.j hx λc eX eO UQ j3 ch tp=>?_) (λr wR U=>?_) λO O U=>U
 ·have Q:=b.UM H ch tp j3
  refine hT C _ l c x y _ X N A u (aa s eX eO) (BN M d l A Y k s X aZ Qv scope C D) m _ (λO=>H.U.ok.quiet hq) Q.g.ak Q.hn UQ hf λk7 nh wW fO UR US UT UU DI DJ hK=>?_;have b5:=Q.dU H UR US UT;have H5:=b5.here H (tk:=nh) UU DI DJ;refine bM (nx _ C fO _ X N A u (aa s k7 nh) H5 hK) (λok aeJ UW=>?_) λe3 G x=>b5.JC H x;obtain⟨j,DK,JE,JF,JG,jZ,g6,r6,z6⟩:=UW;refine B jZ ?_;cases(r6:ok=j);have j:=b5.go H g6;cases ok with
  |false=>exact aQ (items.length-(i+1)) (Nat.sub_lt_sub_left n (n5 i)) ⟨i+1,z,f,wW,DK,JE,JF,JG,rfl,rfl,j,z6.1,(eB f)▸z6.2,lH l1,n⟩
  |true=>refine bM (he _ C fO _ X DK A JE (aa s JF JG) (H5.go g6) z6) (λv7 aeK UX=>?_) λe3 G x=>j.JC H x;obtain⟨p7,UY,UZ,U0,JH,jZ,g7,r7,z7⟩:=UX;refine B jZ ?_;have b7:=j.go H g7;exact append_at (s:=aa s U0 JH) (hsz:=by refine B ei ?_;exact aw l1 (aw (ip n) (aw H.aI dc))) b7.eD λU1 U2 U3=>(aQ (items.length-(i+1)) (Nat.sub_lt_sub_left n (n5 i)) ⟨i+1,z++[v7],f++[p7],wW,UY,UZ,U1,JH,rfl,rfl,b7.push H r7 U2 U3,z7.1,z7.2,by refine B bR ?_;exact fZ l1,n⟩)
 ·cases r with
  |none=>exact U.elim
  |some c=>exact UO c wR U
include H hq hT nx he in
theorem U4 {n:Nat}{s':Shared}(Q:Ab M d Y k s P J C D items g (nu wt wc we y X) F n s')
  (hF:∀D C G δ' j tk z f m,Go M d Y k s.heap G δ' j->j.get? D=some (wY z)->aJ j z f->F f G->s.heap.get? D=none->¬bF G δ' D->s.heap.get? C=none->¬bF G δ' C->C≠D->j.Ns C m->compPost (model M.prog M.w) A (cD M d Y k s X) aZ Qv (.ref D) C (.ok .next) (aa s j tk)):
  Jy (model M.prog M.w) A (compPost (model M.prog M.w) A (cD M d Y k s X) aZ Qv (.ref D) C) a t L (.ref I) (.ref D) (md scope C l) (Ab M d Y k s P J C D items g (nu wt wc we y X) F) n s':=by
 obtain⟨i,z,f,m,G,δ',j,tk,jZ,U5,b,gS,U,l1,l2⟩:=Q;refine B jZ ?_;refine B U5 ?_;cases hx:items[i]? with
 |none=>
  refine H.S.done i G δ' (aa s j tk) _ _ b.g.ak gS b.j hx λk7 nh ch=>?_;have U:=(BE (lD.mp hx))▸U;have tp:cb j k7:=λa0 vs Q=>by exact ai (id Q) λo ho r=>aQ o (ch a0 o ho λpa=>H.S.qZ _ _ b.j a0 pa vs Q) r
  exact hF _ _ G δ' k7 nh z f m (d9.q8 H.U.I b.g (λc x=>b.pv c (.inl x)) ch tp) (ch _ _ b.eD H.pD) (aJ.bU tp b.rv) U H.zD (b.pv _ (.inr (.inr rfl))).2 H.zC b.nC H.ne (b.hn.at' λo e3=>ch _ o e3 H.pC)
 |some x=>have U:=(Jt hx)▸U;exact UN H hq hT nx he b gS l1 hx U λv0 s' Q=>Q
end
theorem JI {a t iter:Expr}{L:List Expr}{scope:Scope}{pos:Pos}{tn:List (Str×Nat)}{wt:WT}{wc:WB}{we:WE}{wi:WI}
  (gL:∃e0 r L2,d=e0::r/\e0.frame=some L2/\l.frame=some L2) (j:wX l rs v scope tn) (hs:∀x,foldedSetIterable iter l x=pure x) (hT:CT M d q scope t tn wt) (hi:gM M d l rs hc q t iter wi)
  (nx:∀cl C,wV M d (compEnvC scope cl C l) v hc q L wc) (he:∀cl C,Ex M d (compEnvC scope cl C l) v hc q a we) {y:aP} {X:XP} {A:Around} {s:Shared} (hq:q=false) (U:dR M d l rs hc q A Y k y s) (aZ:Option (Value->Sem Unit)) (Qv:Value->Shared->Prop)
  {F:List PV->AH->Prop} (h:wi y (λitems g Y=>items.length<=aI/\mY (nu wt wc we y X) g items [] Y F) X Y)
  (hF:∀D C σ' δ' h' tk z f m,Go M d Y k s.heap σ' δ' h'->h'.get? D=some (wY z)->aJ h' z f->F f σ'->s.heap.get? D=none->¬bF σ' δ' D->s.heap.get? C=none->¬bF σ' δ' C->C≠D->h'.Ns C m->compPost (model M.prog M.w) A (cD M d Y k s X) aZ Qv (.ref D) C (.ok .next) (aa s h' tk)):
  wpAny (model M.prog M.w) A (comprehension (.ListComp a [⟨t,iter,L,0⟩] scope pos) scope l (firstIterPos [⟨t,iter,L,0⟩] pos) (newList []) false (eval iter l) aZ) Qv (cD M d Y k s X) s:=by
 have Ac:∀y0∈scope.names,y0.2=.free->∃c,l.cells.lookup y0.1=some c:=λy0 m f0=>by
  refine ai (j.free y0 m f0) λi a0 k0=>?_;cases(U.l.af y0.1 i a0).2 with
  |dU kl=>exact k0.elim (λk0=>nomatch ss k0 kl) λk0=>nomatch ss k0 kl
  |cell O c O ng=>exact⟨c,ng⟩
 refine wpAny_comprehension_free rfl hs ((by have:=Ux Ac [];rw[eB] at this;exact(br (·>>=pure) this).trans (by rfl))) j.kind j.dU (bM (hi y _ X Y A k s hq U h) (λv0 s' x=>?_) λO O x=>x)
 obtain⟨items,g,N,u,p,iT,rfl,JJ,U6,gg,U7,hf⟩:=x;refine U6 _ _ λI P J w S j0 kk fr pI=>?_;have g2:Go M d N u p N u w:=Go.ext JJ.ak kk;refine qw (wpAny_newFunctionEnv j.cell (by intro y0 hy;cases hy) (λiD DL U8=>?_) j.kind);have nD:w.get? w.objs.size=none:=fY (dE _);have sz:(w.push {cls:=.type "list",dict:=none,data:=.seq ([]:List Value).toArray}).objs.size=w.objs.size+1:=Heap.size_push ..;have nC:w.get? (w.objs.size+1)=none:=fY (qD _);have k4:∀{b o},(w.push {cls:=.type "list",dict:=none,data:=.seq ([]:List Value).toArray}).get? b=some o->iD.get? b=some o:=λ{b o} Q=>U8.extBut b o (kO (o9 Q)) (cR _ Q);dsimp only at DL;rw[sz] at DL;have G:=JJ.trans g2;have DM:fp w iD:=λb o Q=>k4 (cR _ Q);have H:DH M d l rs v hc q A Y k y s t scope tn items g I P J (w.objs.size+1) w.objs.size:=
  ⟨gL,j,Ac,U,S,λx=>S.c0 _ _ j0 _ x nC,λx=>S.c0 _ _ j0 _ x nD,Nat.succ_ne_self _,G.bh.bO _ nC,G.bh.bO _ nD,U7⟩
 have b0:iU M d Y k s P J (w.objs.size+1) w.objs.size 0 [] [] (λO=>none) N u iD:=
  ⟨G.trans (Go.ext g2.ak DM),S.bh _ _ _ j0 (λb o O Q=>DM b o Q) (lY DM),λb x=>by
   rcases x with x|x|x
   ·exact fr b x
   ·refine B x ?_;exact⟨H.zC,λo=>g2.ak.mt.bO o nC⟩
   ·refine B x ?_;exact⟨H.zD,λo=>g2.ak.mt.bO o nD⟩,k4 (eK _ rfl),.nil,DL⟩
 have loop:codeAny (model M.prog M.w) A (.compLoop (.ListComp a [⟨t,iter,L,0⟩] scope pos) 0 (.ref I) (.ref w.objs.size) (md scope (w.objs.size+1) l)) (compPost (model M.prog M.w) A (cD M d Y k s X) aZ Qv (.ref w.objs.size) (w.objs.size+1)) (aa s iD (iT+([]:List (Str×Value)).length)):=by exact Uw _ (λn s' z0=>U4 H hq hT nx he z0 hF) items.length ⟨0,[],[],_,N,u,iD,_,rfl,rfl,b0,gg,hf,dE _,cI _⟩
 have e0:=codeAny_compStart_list loop (S.oG 0 _ _ _ b0.j loop);exact B sz e0
theorem JK (r:bk M d Y k h)(g:Go M d Y k h N u p){D:Addr}{z:List Value}{f:List PV}(G:p.get? D=some (wY z))(rv:aJ p z f)(n:h.get? D=none)(j:¬bF N u D):Go M d Y k h (N.set D (.list f)) u p/\N D=none:=by
 refine dD (qP r n) λU Q O=>⟨Go.s7 g U n Q j (aQ z (eL.of G) rv) (λO O=>rfl) (λc fs x=>bS.noConfusion x),?_⟩;cases u0:N D with
 |none=>rfl
 |some o=>exact absurd (qN u0) j
theorem JL {a t iter:Expr}{L:List Expr}{scope:Scope}(G:Pos){tn:List (Str×Nat)}{wt:WT}{wc:WB}{we:WE}{wi:WI}
  (gL:∃e0 r L2,d=e0::r/\e0.frame=some L2/\l.frame=some L2) (co:wX l rs v scope tn) (hs:∀x,foldedSetIterable iter l x=pure x) (hT:CT M d q scope t tn wt) (hi:gM M d l rs hc q t iter wi)
  (nx:∀cl C,wV M d (compEnvC scope cl C l) v hc q L wc) (he:∀cl C,Ex M d (compEnvC scope cl C l) v hc q a we):
  Ex M d l rs hc q (.ListComp a [⟨t,iter,L,0⟩] scope G) (λy Q X Y=>q=false/\wi y (λitems g Y=>items.length<=aI/\mY (nu wt wc we y X) g items [] Y (λf Y=>f.length<=aI/\bw Y (.list f) Q)) X Y):=λy Q X Y A k s U h=>by
 refine((JI gL co hs hT hi nx he h.1 U none _ h.2 λD C σ' δ' h' tk z f m g eD rv hF zD nD zC nC DN hn=>aQ m hn (λh'' j=>?_)):wpAny _ A (comprehension (.ListComp a [⟨t,iter,L,0⟩] scope G) scope l (firstIterPos [⟨t,iter,L,0⟩] G) (newList []) false (eval iter l) none) _ _ s);have tp:=tE hn j;exact Ka (JK U.I (d9.q8 (P:=(·=C)) U.I g (λb c=>by exact B c ⟨zC,nC⟩) (λb o c n=>(j.2 b n).trans c) tp) ((j.2 D (jT DN)).trans eD) (aJ.bU tp rv) zD nD) λga u0=>⟨.ref D,_,δ',h'',tk,rfl,ga,.ref _,hF.2 D u0⟩
theorem JM (st:df M d l rs){x:Str}{i:Nat}{a t iter:Expr}{L:List Expr}{scope:Scope}(p1 G pos:Pos){tn:List (Str×Nat)}{wt:WT}{wc:WB}{we:WE}{wi:WI}
  (U9:swapsWith (.ListComp a [⟨t,iter,L,0⟩] scope G) (some (.Name x p1)) pos.line l=pure true) (hx:rs.lookup x=some i) (Ad:l.kindOf x=some .local∨l.kindOf x=some .cell)
  (co:wX l rs v scope tn) (hs:∀x,foldedSetIterable iter l x=pure x) (hT:CT M d q scope t tn wt) (hi:gM M d l rs hc q t iter wi)
  (nx:∀cl C,wV M d (compEnvC scope cl C l) v hc q L wc) (he:∀cl C,Ex M d (compEnvC scope cl C l) v hc q a we):
  Sx M d l rs hc q (.Assign [.Name x p1] (.ListComp a [⟨t,iter,L,0⟩] scope G) pos) (λy Q X Y=>q=false/\wi y (λitems g Y=>items.length<=aI/\mY (nu wt wc we y (λc t=>X c t y)) g items [] Y (λf Y=>f.length<=aI/\bw Y (.list f) (λv0 Y=>i<y.length/\Q .next (y.set i (some v0)) Y))) (λc t=>X c t y) Y):=λy Q X Y A k s U h=>by
 rw[exec_Assign_arm];refine ae (il ?_);refine B (show swapsWithSole [.Name x p1] (.ListComp a [⟨t,iter,L,0⟩] scope G) pos.line l=pure true from U9) (ae (aU ?_));refine B (aG rfl) (ae ?_);refine(?_:wpAny _ A (comprehension (.ListComp a [⟨t,iter,L,0⟩] scope G) scope l (firstIterPos [⟨t,iter,L,0⟩] G) (newList []) false (eval iter l) (some λv0=>assign (.Name x p1) l v0)>>=λO=>pure ()) _ _ s);refine ae (bM (JI (Qv:=λO s'=>cB M d l rs Y k s Q .next s') st.gL co hs hT hi nx he h.1 U _ h.2 λD C σ' δ' h' tk z f m g eD rv hF zD nD zC nC DN hn=>?_) (λO O y0=>aU (aU y0)) λO O x=>x.bp U.l U.I);refine Ka (JK U.I g eD rv zD nD) λga u0=>?_;have Va:¬bF (σ'.set D (.list f)) δ' C:=λo=>by
  rcases o with o|⟨a0,c,fs,j,q⟩
  ·rw[AH.cJ _ _ DN] at o;exact nC (.inl o)
  ·by_cases z0:a0=D
   ·subst z0;rw[AH.a9] at j;cases j
   ·rw[AH.cJ _ _ z0] at j;exact nC (.inr (js a0 c fs j q))
 refine(?_:wpAny _ A (assign (.Name x p1) l (.ref D)) _ _ _);refine uS (wF (s:=aa s h' tk) st U.I (ga.bp U.I) (U.l.go U.I ga) hx Ad (.ref D) λw dI iE pR Vb O=>?_);have JN:w.Ns C m:=by exact iY hn λo es ep ho r=>js o es ep ((Vb C (λy0=>(U.l.c0 y0).1 zC)).trans ho) r
 refine aQ m JN (λeX JO=>?_);exact Ka (d9.iC (P:=(·=C)) st U.I U.l iE (λb j=>by refine B j ?_;exact⟨zC,Va⟩) (λb o j n=>(JO.2 b n).trans j) (tE JN JO)) λg3 lf=>cB.now (s:=s) g3 (lf _ pR) .next (hF.2 D u0).2
end
noncomputable section
open Builtin Builtin.ObjectAttr Builtin.Getset_descriptor
noncomputable def h6 (l:List Bool):Bool:=l.all id
theorem bj (h:h6 l=true)(i:Nat):l.getD i true=true:=by
 refine B (o3) ?_;cases q:l[i]? with
 |none=>rfl
 |some b=>exact bI.mp h b (uJ q)
def DO (K:Frag) (C:Addr):Bool:=(K.lookup C).any λo=>o.cls==.type "type"&&(clsIn K C).any λa=>h6 [!a.abstract,!a.hasDel,a.hasDict,(o.slots.toList[4]?).join==some (.builtin "Exception.__new__"),!a.mro.isEmpty,a.mro.contains (.ref C),a.mro.contains (.type "object"),a.mro.contains (.type "Exception"),a.mro.contains (.type "BaseException"),!a.mro.contains (.type "AttributeError"),!a.mro.contains (.type "NameError"),
 specialIn K (.ref C) "__call__"==some (some (.builtin "type.__call__")),instIn K (.ref C) (.type "type")==some true]
theorem Vc {K:Frag}(d:K.lookup C=some o)(a:clsIn K C=some b):o.data=.cls b:=by unfold clsIn at a;rw[d] at a;obtain⟨e,f,c,g⟩:=o;cases c<;>first|exact br Data.cls (bo a)|exact nn (o:=none) rfl a
inductive Vd (h:Heap)(C:Addr):Prop
 |mk (b:Option Addr) (a:ClassData) (c:Array (Option Value)) (e:h.get? C=some ⟨.type "type",b,.cls a,c⟩) (e1:a.abstract=false) (e2:a.hasDel=false) (d:a.mro.isEmpty=false) (f:a.hasDict=true)
structure pS (M:Model)(h:Heap)(C:Addr):Prop where
 obj:Vd h C
 made:Looks M h (Bind.madeBy (.ref C)) (some "Exception.__new__")
 base:Looks M h (Bind.staticBase (.ref C)) (.ref C)
 oG:Looks M h (isSubtype (.ref C) (.ref C)) true
 gL:Looks M h (isSubtype (.ref C) (.type "object")) true
 JP:Looks M h (isSubtype (.ref C) (.type "Exception")) true
 JQ:Looks M h (isSubtype (.ref C) (.type "BaseException")) true
 Ve:Looks M h (isSubtype (.ref C) (.type "AttributeError")) false
 Vf:Looks M h (isSubtype (.ref C) (.type "NameError")) false
 call:Looks M h (specialOf (.ref C) "__call__") (some (.builtin "type.__call__"))
 wA:Looks M h (isInstance (.ref C) (.type "type")) true
theorem pS.ty (a:pS M h C):Looks M h (typeOf (.ref C)) (.type "type"):=by obtain⟨d,c,e,b,O,O,O,O⟩:=a.obj;exact(Looks.ld b).andThen .now
theorem DP {K:Frag}(X:K.In h)(e:DO K C=true):pS M h C:=by
 refine ai (any_some e) λw g e=>?_;obtain⟨u,v,p,n⟩:=w;refine ai (any_some (V e).2) λa f t=>?_;cases(bG.mp (V e).1:u=.type "type");cases(Vc g f:p=.cls a);have d:=cw (bj t 4);have j:Looks M h (mroOf (.ref C)) a.mro:=(looks_clsIn X f).andThen .now;obtain⟨c,l,i⟩:∃c l,a.mro=c::l:=by cases q:a.mro with|nil=>have d:=q▸d;cases d|cons c l=>exact mH c l rfl
 have m:Looks M h (Bind.madeBy (.ref C)) (some "Exception.__new__"):=by intro A Q E s k q;unfold Bind.madeBy;refine ae (j A _ E s k ?_);rw[i,List.forIn_cons];refine ae (ae (ae (ae (sg (k _ _ (X _ _ g)) (aU ?_)))));rw[←rZ,bG.mp (bj t 3:((n.toList[4]?).join==some (.builtin "Exception.__new__"))=true)];exact aU (aU (aU q))
 have sub:∀b r,a.mro.contains b=r->Looks M h (isSubtype (.ref C) b) r:=λb r e=>looks_mroIn X (by unfold mroIn;rw[f,sa,aH (by refine B d ?_;decide),e]);refine⟨⟨v,a,n,X _ _ g,cw (bj t 0),cw (bj t 1),d,bj t 2⟩,m,?_,sub _ _ (bj t 5),sub _ _ (bj t 6),sub _ _ (bj t 7),sub _ _ (bj t 8),sub _ _ (cw (bj t 9)),sub _ _ (cw (bj t 10)),looks_specialIn X (bG.mp (bj t 11)),looks_instIn X (bG.mp (bj t 12))⟩;intro A Q E s k q;unfold Bind.staticBase;refine ae (j A _ E s k ?_);rw[i,List.forIn_cons];exact ae (ae (ae (m A _ E s k (aU (aU (aU q))))))
noncomputable abbrev j9 (C t:Addr):Obj:={cls:=.ref C,data:=.fields #[.ref t,.none,.none,.none,.bool false,.none]}
noncomputable abbrev ny (a:List Value):Obj:={cls:=.type "tuple",data:=.seq a.toArray}
noncomputable def Vg (id owner:String)(cls:Value)(k:Sem Unit):Sem Unit:=do
 if !(←isType cls) then
  rule "call.new.not-a-type";raiseError "TypeError" s!"{owner}.__new__(X): X is not a type object ({← typeNameOf cls})"
 if !(←isSubtype cls (.type owner)) then
  if let some key←opaqueClassAbove cls then unsupported s!"thirdparty:{key.toString}:a-builtin-__new__-refuses-it"
  rule "call.new.not-a-subtype"
  raiseError "TypeError" s!"{owner}.__new__({← typeName cls}): {← typeName cls} is not a subtype of {owner}"
 let base←Bind.staticBase cls
 let some a←Bind.madeBy base|unsupported "internal:no-static-base"
 if Manifest.canonical a !=Manifest.canonical id then
  if a=="thirdparty.new_stops" then unsupported s!"thirdparty:{((← opaqueClassAbove cls).map (·.toString)).getD "?"}():instances-not-modelled"
  rule "call.new.not-safe"
  raiseError "TypeError" s!"{owner}.__new__({← typeName cls}) is not safe, use {← typeName base}.__new__()"
 k
theorem Vh (C:Addr)(a:List Value):checkBuiltinCall "Exception.__new__" ⟨.ref C::a,[]⟩=Vg "Exception.__new__" "Exception" (.ref C) (match Manifest.signature? "Exception.__new__" with|some b=>Bind.checkArgs "Exception.__new__" b ⟨.ref C::a,[]⟩|none=>pure ()):=by kernel_rfl
theorem pS.JR (a:pS M h C):Looks M h (isType (.ref C)) true:=by obtain⟨d,c,e,b,O,O,O,O⟩:=a.obj;exact(Looks.ld b).andThen .now
theorem Vi (C:Addr)(a:List Value):(match Manifest.signature? "Exception.__new__" with|some b=>Bind.checkArgs "Exception.__new__" b ⟨.ref C::a,[]⟩|none=>pure ())=pure ():=cA
theorem Vj {E:Value->Shared->Prop}(a:pS M s.heap C)(b:Q () s):wpAny M A (checkBuiltinCall "Exception.__new__" ⟨.ref C::c,[]⟩) Q E s:=by rw[Vh,Vi];refine ae (a.JR.here (ae (a.JP.here (ae (a.base.here (ae (a.made.here (?_:wpAny _ _ (if(Manifest.canonical "Exception.__new__" !=Manifest.canonical "Exception.__new__")=true then _ else _) _ _ _))))))));rw[bne_self_eq_false];exact aU b
section
variable {K:Frag}{os:OsState}
theorem Vk (a:pS (model f w) s.heap C)(d:b.length<=100)
  (e:R (.ok (.ret (.ref (s.heap.objs.size+1)))) (aa s ((s.heap.push (ny b)).push (j9 C s.heap.objs.size)) s.toks)):
  codeAny (model f w) A (.call (.builtin "Exception.__new__") ⟨.ref C::b,[]⟩) R s:=by
 have F:=PySem.F.excBase_Exception;have h:=F.ends;refine codeAny_call_builtin_code (Code.quiet_builtin _ F.quiet) (Vj a (codeAny_builtinAt F.entry (PySem.wpAt_bind ((PySem.wpAt_bind (PySem.wpAt_stack λp below=>PySem.wpAt_of_wpAny ?_)):PySem.wpAt _ _ _ (stack>>=_) _ _ _))));wp_walk;refine PySem.wpAt_of_wpAny ?_;rw[F.owner];obtain⟨i,g,j,c,O,e2,O,O⟩:=a.obj;refine ae (a.JR.here (ae (a.JP.here (ae ((a.base.andThen (a.made.andThen (Looks.of_pure (by rw[Option.map_some,F.canon,bne_self_eq_false,aH dz])))).here (ae (ae (a.Ve.here (iq rfl (ae (a.Vf.here (iq rfl (aU (ae (wpAny_newTuple (ae (ae (wpAny_alloc (ae (ae (sg (cR (j9 C s.heap.objs.size) (cR (ny b) c)) (aU (iq e2 (aU (aU ?_)))))))))) (aw d (by rw[jR];decide)))))))))))))))));refine(?_:R _ _);rw[Heap.size_push];exact e
theorem Vm (d:pS (model c w) s.heap C)(q:Looks (model c w) s.heap (typeLookup (.ref C) "__init__") (some f))(t:a.length<=100)
  (p:∀j,Looks (model c w) s.heap (bindSpecial f j) (f,[j]))
  (h:codeAny (model c w) (A.under (.builtin "type.__call__" ⟨.ref C::a,[]⟩)) (.call f ⟨.ref (s.heap.objs.size+1)::a,[]⟩) (InitBack (s.heap.objs.size+1) R) (aa s ((s.heap.push (ny a)).push (j9 C s.heap.objs.size)) s.toks)):
  codeAny (model c w) A (.call (.ref C) ⟨a,[]⟩) R s:=by
 obtain⟨u,l,y,g,O,O,m,O⟩:=d.obj;have k:fp s.heap ((s.heap.push (ny a)).push (j9 C s.heap.objs.size)):=λb o e=>cR _ (cR _ e);have i:((s.heap.push (ny a)).push (j9 C s.heap.objs.size)).get? (s.heap.objs.size+1)=some (j9 C s.heap.objs.size):=by heap_get
 refine codeAny_of_tree ((nd_load g (?_:wpAny _ _ (callAny.viaDunder (.ref C) _) _ _ _)):wpAny _ _ (callAny (.ref C) _) _ _ _);unfold callAny.viaDunder;refine ae (d.call.at ?_);dsimp only;rw[tc_bind];refine ae (aU (ae (aU (aU (a:=Fin.again (.call (.builtin "type.__call__") ⟨.ref C::a,[]⟩)) (And.intro rfl (codeAny_call_builtin_at (Code.quiet_builtin _ (by decide+kernel)) entry_typeCall (check_slot tc_kind tc_split d.wA (tc_args _ _ _) (ae ((((Looks.ld (part:=none) g).andThen .now).andThen .now:Looks (model c w) s.heap (mroOf (.ref C)) l.mro).here (iq m (ae (d.made.here (ae (aU (ae (dm (n7 (Vk d t ?_))))))))))))))))));generalize (s.heap.push (ny a)).push (j9 C s.heap.objs.size)=U at k i h⊢;have t1:Looks (model c w) U (typeOf (.ref (s.heap.objs.size+1))) (.ref C):=(Looks.ld i).andThen .now;refine ae ((t1.andThen (d.oG.keeps k):Looks (model c w) U (isInstance (.ref (s.heap.objs.size+1)) (.ref C)) true).here (s:=aa s U s.toks) (ae (dm (ae ((t1.andThen (q.keeps k)).here (s:=aa s U s.toks) (dm (ae (((p _).keeps k).here (s:=aa s U s.toks) (ae (n7 (codeAny_mono h λr x z=>?_)))))))))));rcases r with e|(v|_|_|_)<;>first|exact z|exact z.elim|skip
 obtain⟨n,z⟩:=z;refine B n ?_;exact aU (aU z)
end
section
variable {K:Frag}{E:Value->Shared->Prop}
theorem Vo (a:At)(X:K.In s.heap)(f:s.heap.get? x=some {cls:=.ref C,data:=.fields h})(k1:clsIn K C=some q)(k2:q.hasDict=true)(k3:findIn K (.ref C) a.str=some none)
  (y:findIn K (.ref C) "__setattr__"=some (some (.builtin "object.__setattr__"))) (z:ti K C=true)
  (r:∀c G,(∀b o,b≠x->s.heap.get? b=some o->c.get? b=some o)->c.get? x=some {cls:=.ref C,dict:=some s.heap.objs.size,data:=.fields h}->(∃n,c.get? s.heap.objs.size=some (dictOf [⟨PyData.keyHash w.params a.str,.str a.str (s.toks+1),v⟩] n))->Q () (aa s c G)):
  wpAny (model J w) A (setAttr (.ref x) a.str v) Q E s:=by
 have i:W.InstAt s.heap x {cls:=.ref C,data:=.fields h} C none:=⟨f,rfl,rfl,trivial⟩;refine set_plain X i y (IU (s:={s with toks:=s.toks+1}) X i z k3 λb=>?_);have p:K.In ({s with toks:=s.toks+1}:Shared).heap:=X;refine ae (aU (ae (ae (sg f (ae ((looks_clsIn p k1).here ?_))))));rw[k2];refine(?_:wpAny _ _ (alloc {cls:=.type "dict",data:=.dict #[]}>>=λd=>update x (λo=>{o with dict:=some d})>>=λO=>dictMade (.ref C) x d) _ _ _);have m:=cR emptyDict f;refine ae (wpAny_alloc (ae (wpAny_update (s:={s with heap:=s.heap.push emptyDict,toks:=s.toks+1}) m ?_)));have k:x≠s.heap.objs.size:=kO (o9 f);have u:((s.heap.push emptyDict).update x λo=>{o with dict:=some s.heap.objs.size}).get? x=some {cls:=.ref C,dict:=some s.heap.objs.size,data:=.fields h}:=uK _ m rfl;have t:((s.heap.push emptyDict).update x λo=>{o with dict:=some s.heap.objs.size}).get? s.heap.objs.size=some emptyDict:=(lE _ _ k).trans (eK _ rfl);have H:∀b o,b≠x->s.heap.get? b=some o->((s.heap.push emptyDict).update x λo=>{o with dict:=some s.heap.objs.size}).get? b=some o:=λb o n e=>(lE _ _ (jT n)).trans (cR _ e);generalize I:((s.heap.push emptyDict).update x λo=>{o with dict:=some s.heap.objs.size})=U at*;refine(?_:wpAny _ _ (pure (some s.heap.objs.size)) _ _ _);refine aU (?_:wpAny _ _ (storeInDict s.heap.objs.size (Value.str a.str s.toks) a.str v) _ _ {s with heap:=U,toks:=s.toks+1});have g:U.get? s.heap.objs.size=some (dictOf [] 0):=t;refine ae (aU (ae ?_));unfold nsSet;refine ae (ae (wpAny_askSetting (aU (ae (wpAny_mkText (ae (sg g (?_:wpAny _ _ (if aRefKeyMayBeTheName a.str ([]:List DictEntry).toArray=true then _ else _) _ _ _))))))));rw[aRefKeyMayBeTheName_at,show(!(([]:List DictEntry).toArray).any (·.key.isStr a.str)&&(([]:List DictEntry).toArray).any (·.refKey))=false by simp];refine iq rfl ?_;have j:=putName_dict a.str (PyData.keyHash w.params a.str) (.str a.str (s.toks+1)) v [] 0;have l:(U.update s.heap.objs.size (Obj.putName a.str (PyData.keyHash w.params a.str) (.str a.str (s.toks+1)) v)).get? s.heap.objs.size=some (dictOf (putL a.str (PyData.keyHash w.params a.str) (.str a.str (s.toks+1)) v []) (putN a.str [] 0)):=by rw[uK _ g (by refine B j ?_;rfl),j]
 refine wpAny_updatePart g (ae (wpAny_lookBehind l (pastItsLine_dict (by refine B ei (B jR ?_);have:=De a.str (PyData.keyHash w.params a.str) (.str a.str (s.toks+1)) v [];simp only[List.length_nil] at this;exact bl)) ?_));refine aU (r _ _ (λb o n e=>?_) ?_ ⟨_,l⟩)
 ·have D:b≠s.heap.objs.size:=kO (o9 e)
  exact(lE _ _ (jT D)).trans (H b o n e)
 ·exact(lE _ _ (jT k)).trans u
end
end
def oI:Nat->(List Value->Prop)->Prop
 |0,P=>P []
 |n+1,P=>∀v,oI n λl=>P (v::l)
theorem oI.get:∀{P:List Value->Prop},oI n P->∀{a:List Value},a.length=n->P a:=by
 induction n with
 |zero=>exact λh a e=>(uH.mp e).symm▸h
 |succ n b=>
  intro P h a e;cases a with
  |nil=>injection e
  |cons v a=>exact b (h v) (Nat.succ.inj e)
abbrev Bds:=List (Str×Value)
noncomputable def tF (K:Frag)(d:Value):List Value:=match d with
 |.ref t=>(match K.lookup t with|some ⟨_,_,.seq a _,_⟩=>a.toList|_=>[])
 |_=>[]
def pT (K:Frag) (a:FuncData) (c:List Str) (j:Nat) (b:List Value):Prop:=∀S,peek K S (bindArgs a ⟨b,[]⟩)=some (c.zip (b++(tF K a.defaults).drop j))
section
theorem Vp:∀{m:Str->Option Value},(∀p∈l,p.1≠x)->bindL k l m x=m x:=by
 induction l with
 |nil=>exact λO=>rfl
 |cons p l b=>exact λh=>(b λq a=>h q (.tail _ a)).trans (by
   by_cases e:k p.1=some .local
   ·exact(congrFun (aG e) x).trans (aH (h p (.head _)).symm)
   ·exact congrFun (aH e) x)
theorem Ae:∀{m:Str->Option Value} {i:Nat},(l.map (·.1)).Nodup->l[i]? =some (x,v)->k x=some .local->bindL k l m x=some v:=by
 induction l with
 |nil=>exact λO h O=>nn rfl h
 |cons p l c=>
  intro m i f h a;obtain⟨n1,d⟩:=g9.mp f;cases i with
  |succ i=>exact c d h a
  |zero=>obtain rfl:=bo h;exact Eq.trans (Vp (l:=l) λq b e=>n1 (bJ.mpr (aQ q b e))) (B (aG a) (aG rfl))
theorem Vq:∀{m:Str->Option Value},bindC k l m=bindL (λy=>if k y=some .local then none else some .local) l m:=by
 induction l with
 |nil=>exact rfl
 |cons p l a=>exact λ{m}=>a.trans (br (bindL _ l) (by
   by_cases e:k p.1=some .local
   ·exact(aG e).trans (aH λz=>nomatch ((aG e).symm.trans z:none=some NameKind.local)).symm
   ·exact(aH e).trans (aG (aH e)).symm))
end
def DQ (scope:Scope) (x:Str):Prop:=scope.names.lookup x=some .local∨(scope.names.lookup x=some .cell/\∀k,((cellsFrom k scope.names []).lookup x).isSome=true)
structure wZ (scope:Scope)(a:List Str)(n:Nat)(rs:List (Str×Nat)):Prop where
 kind:scope.kind=.function
 nd:a.Nodup
 le:a.length<=n
 JS:∀x∈a,DQ scope x
 DR:∀x i,rs.lookup x=some i->i<n/\DQ scope x/\(i<a.length->a[i]? =some x)
 inj:∀x y i,rs.lookup x=some i->rs.lookup y=some i->x=y
noncomputable abbrev gN (b:FuncData)(L a:Addr):Env:=newEnv b.scope L mainGlobals (cellsFrom (L+1) b.scope.names []) (b.qualname++".<locals>.") (some a) b.code none builtinsNs
abbrev mh (n a:Nat) (pv:List PV):aP:=pv.map some++List.replicate (n-a) none
theorem Vr (h:(mh n a pv).getD i none=some u):pv[i]? =some u:=by
 have h:=(o3)▸h;have h:=(List.getElem?_append)▸h;split at h
 ·have h:=(eZ)▸h
  cases q:pv[i]? with
  |none=>have h:=q▸h;injection h
  |some p=>have h:=q▸h;exact h
 ·have h:=(List.getElem?_replicate)▸h
  split at h<;>injection h
theorem Vs {l:List (Str×Addr)}(f:l.Pairwise λx y=>x.2≠y.2)(b:(x,c)∈l)(d:(y,c)∈l):x=y:=by
 induction f with
 |nil=>cases b
 |cons a O g=>
  cases b with
  |head=>cases d with
   |head=>rfl
   |tail O m=>exact(a _ m rfl).elim
  |tail O e=>cases d with
   |head=>exact(a _ e rfl).elim
   |tail O m=>exact g e m
section
theorem bk.JT (I:bk a c Y d h)(e:h.get? b=none):a.base.get? b=none:=gu (λo q z=>nn z (I.hW b o q)) e
theorem bk.frame (I:bk i j Y s h)(p:fp h e)(l:c.scope.kind=.function)(d:c.frame=some L)(a:h.get? L=none)(n:e.get? L=some f)(k:∀r,f.data≠.fields r):bk i (c::j) Y s e:=by have g:=Go.ext I p;refine⟨g.ak.hW,(aS (B l (λz=>nomatch z)) (lB L f d (I.JT a) n k) g.ak.frames),g.ak.mt,λb x=>⟨(g.ak.de b x).1,λm=>?_⟩⟩;rw[CK d] at m;exact(d4.mp m).elim (λq=>I.mt.bO x (q▸a)) (g.ak.de b x).2
theorem DS (f:fp h j)(i:∀b,fN a b->h.get? b=none)(s:a.frame=some L)(r:a.locals=L)(g:cE p (a::c) a Y u j w v t):Go p c Y u h w v t:=by
 have d:cM (a::c)=L::cM c:=CK s;have l:∀b o,h.get? b=some o->¬fN a b:=λb o e x=>nn (i b x) e;have k:∀b,j.get? b=none->h.get? b=none:=λb=>gu λo q z=>nn z (f b o q);refine⟨⟨g.ak.hW,g.ak.frames.2.2,g.ak.mt,λb x=>⟨(g.ak.de b x).1,λm=>(g.ak.de b x).2 (d▸.tail _ m)⟩⟩,⟨λb e=>k b (g.bh.bO b e),λb o e n m=>?_,λb o e n m=>?_⟩,λb x=>(g.eM b x).imp id (k b)⟩
 ·exact g.bh.aa b o (f b o e) (λx=>x.elim n (l b o e)) (d▸λz=>(d4.mp z).elim ((λb o e q=>nn (i b (.inl (q.trans r.symm))) e:∀b o,h.get? b=some o->b≠L) b o e) m)
 ·exact g.bh.fr b o (f b o e) (λx=>x.elim n (l b o e)) (d▸.tail _ m)
end
inductive Af (f:Cx)(g:List Env)(c:FuncData)(a:Addr)(rs:List (Str×Nat))(j:Nat)(q:Bool)(A:Around)(Y:AH)(l:Addr->Addr)(m:aP)(s:Shared)(i:Env)(k:Shared):Prop
 |mk (L:Addr) (d:Heap) (h:Nat) (e:i=gN c L a) (n:k=aa s d h) (p:fp s.heap d) (gu:∀b,fN (gN c L a) b->s.heap.get? b=none) (st:df f (gN c L a::g) (gN c L a) rs)
  (U:dR f (gN c L a::g) (gN c L a) rs j q (A.deeper (gN c L a)) Y l m (aa s d h))
section
variable {rs:List (Str×Nat)}
theorem eN.Vt (a:eN A c (d+1) q)(b:Env):eN (A.deeper b) (b::c) d q:=
 ⟨Around.frames_deeper a.frames,a.quiet,pj (w:=1) a.depth (n5 _) dc,pj (w:=3) a.units (n5 _) dc⟩
theorem eN.qT (a:eN A b c q):A.depth<recursionLimit:=Nat.lt_succ_of_le (Nat.le_trans (Nat.le_trans (Nat.le_add_right _ _) (Nat.le_add_right _ _)) a.depth)
theorem enter (aV:wZ f.scope d n rs)(Vu:eN A U (p+1) q)(I:bk cx U Y δ s.heap){vv:List Value}(r:aJ s.heap vv pv)(L:pv.length=d.length)(a:Addr){E:Value->Shared->Prop}
  (h:∀t C,Af cx U f a rs p q A Y δ (mh n d.length pv) s t C->Q t C):wpAny M A' (newFunctionEnv f.scope mainGlobals [] (d.zip vv) (f.qualname++".<locals>.") (some a) f.code none builtinsNs) Q E s:=by
 refine wpAny_newFunctionEnv_cells aV.kind (λx hx=>(aV.JS x.1 (List.of_mem_zip hx).1).imp id λz=>⟨z.1,z.2 _⟩) λt he C ic=>h _ _ ?_;obtain⟨⟨⟨w,tk,J⟩,ns,H,O⟩,G,pK,D⟩:=ic;cases he;cases J;have j:∀b,fN (gN f s.heap.objs.size a) b->s.heap.get? b=none:=λb x=>by
  rcases x with x|⟨x,e⟩
  ·exact fY (ju x.symm)
  ·exact fY (ip (D x b (tD e)))
 refine jr (id ns) λoL J ep N Vv O=>?_;have lo:vv.length=d.length:=r.length.trans L;have nd:((d.zip vv).map (·.1)).Nodup:=by rw[List.map_fst_zip (ju lo.symm)];exact aV.nd
 have pr:∀x i u,rs.lookup x=some i->(mh n d.length pv).getD i none=some u->∃v,(d.zip vv)[i]? =some (x,v)/\ag w v u:=λx i u e g=>by obtain⟨v,hv,m⟩:=(r.bU (lY H)).get (Vr g);exact aQ v (List.getElem?_zip_eq_some.mpr ⟨(aV.DR x i e).2.2 (lo▸(kH.mp hv).1),hv⟩) m
 have l:LR (gN f s.heap.objs.size a) rs Y δ (mh n d.length pv) w:=by
  refine⟨aV.kind,λx i e=>⟨?_,?_⟩,λo=>I.mt.bO o (j _ (.inl rfl)),c0 N,λx c e=>aS (Nat.ne_of_gt (D x c (tD e))) ?_ (λo=>I.mt.bO o (j _ (.inr ⟨x,e⟩))),λx c y e e'=>Vs pK (tD e) (tD e'),rfl,rfl⟩
  ·rw[bR,aW,List.length_replicate,L,Nat.add_sub_cancel' aV.le];exact(aV.DR x i e).1
  ·rcases(aV.DR x i e).2.1 with b|⟨b,k⟩
   ·exact .dU b _ ns λu g=>by exact ai (pr x i u e g) λv z m=>aQ v (Ae nd z b) m
   ·refine Ke (uF.mp (k (s.heap.objs.size+1))) λc p=>?_
    exact .cell (.inl b) c _ p (G x c p) λu g=>by exact ai (pr x i u e g) λv z m=>aQ v ((congrFun Vq x).trans (Ae nd z (aH λz=>(by cases(b.symm.trans z:some NameKind.cell=some .local))))) m
  ·exact ai (G x c e) λo ho O=>c0 ho
 exact⟨s.heap.objs.size,w,tk,rfl,rfl,H,j,⟨(qq _ _ _ rfl rfl rfl),λb x=>I.JT (j b x),aV.inj⟩,Vu.Vt _,I.frame H aV.kind rfl (j _ (.inl rfl)) N (λvs z=>(by injection (Vv.symm.trans z))),l⟩
end
structure w2 (b:Cx)(f:Fn)(a:FuncData)(body:List Stmt)(i:List Str)(c:List PV)(n:Nat)(rs:List (Str×Nat)):Prop where
 obj:∃d e g,b.K.lookup (b.c1 f)=some ⟨d,e,.func a,g⟩
 body:a.body=.stmts body
 JU:a.closure=[]
 cH:a.globals=mainGlobals
 blt:a.builtins=builtinsNs
 co:a.scope.isCoroutine=false
 fu:a.scope.isGenerator=false
 cd:codeIn b.K a.code a.qualname=true
 aV:wZ a.scope i n rs
 dv:∀h:Heap,b.K.In h->aJ h (tF b.K a.defaults) c
section
variable {body:List Stmt}{rs:List (Str×Nat)}
theorem w2.call (ok:c7 a)(F:w2 a f l body g dP n rs)(i:eN A k (v+1) q)(I:bk a k Y H s.heap)(r:aJ s.heap p m)(u:pT a.K l g j p)(w:(m++dP.drop j).length=g.length)
  (h:∀c d,Af a k l (a.c1 f) rs v q A Y H (mh n g.length (m++dP.drop j)) s c d->codeAny (model a.prog a.w) A (.func body c) R d):codeAny (model a.prog a.w) A (.call (.ref (a.c1 f)) ⟨p,[]⟩) R s:=by
 refine Ke F.obj λD y=>eJ y λG U t=>?_;have K0:=jY ok I;refine codeAny_call_function i.qT (K0 _ _ t) rfl F.co F.fu F.body (codeRec_of K0 F.cd) (Looks.here (Looks.of_peek K0 (u _)) (B F.cH (B F.JU (B F.blt (enter F.aV i I (r.append ((F.dv _ K0).drop j)) w _ λc d x=>⟨?_,h c d x⟩)))));obtain⟨L,C,J,e,rfl,z,O⟩:=x;exact ok.nolimit.keeps λb o e=>z b o (I.hW b o e)
theorem Vw {R:Value->Shared->Prop}(x:Af i n M (i.c1 f) rs N q A Y r ρ s j G)(y:dW i (j::n) j rs Y r G (λc t O Y=>X c t Y) e d)
  (h:∀d,cD i n Y r s X e d->R e d) {E:Value->Shared->Prop}:wpAny (model i.prog i.w) (A.deeper j) (leaving j e) (λO d=>R e d) E d:=by
 obtain⟨L,Q,tk,rfl,rfl,p,u,st,U⟩:=x;obtain⟨a,c,t,fO,J,I,w,l,rfl,rfl,g,l',v,z⟩:=y;refine ae (wK (s:=aa s w l) rfl U.ok.frames rfl rfl U.I g.ak g.bh.bO v λH k tr=>tB (s:=aa s H l) _ U.I (g.mv U.I st.dU k).ak k.j6 λC D=>h _ ?_);have m:=k.trans D;exact⟨a,c,t,J,I,C,l,rfl,rfl,DS p u rfl rfl (g.mv U.I st.dU m),m.j6.zi λb e=>gu (λo q z=>nn z (p b o q)) e,z⟩
noncomputable def Vx:Flow->Value
 |.ret v=>v
 |_=>.none
theorem Vy (x:Af a d u (a.c1 f) rs w q A Y i I s c n)(y:cB a (c::d) c rs Y i n (λb O Y=>match b with|.ret p=>Q p Y|.next=>Q .none Y|_=>False) b t):
  bN a d Y i s Q (Vx b) t:=by
 obtain⟨L,H,D,rfl,rfl,m,l,st,U⟩:=x;obtain⟨v,J,k,j,e,h,rfl,g,C,r,z⟩:=y;have G:=DS m l (L:=L) rfl rfl g
 induction r using jD.casesOn with
 |next=>exact⟨.none,k,j,e,h,rfl,G,.none,z⟩
 |brk=>exact z.elim
 |cont=>exact z.elim
 |ret r=>exact⟨_,k,j,e,h,rfl,G,r,z⟩
theorem JV (ok:c7 a)(F:w2 a f b body g dP n rs)(C:a.ht f=v+1)(u:∀d L,df a (gN b L (a.c1 f)::d) (gN b L (a.c1 f)) rs->fy a (gN b L (a.c1 f)::d) (gN b L (a.c1 f)) rs v q body w)(H:(i++dP.drop j).length=g.length)(m:oI i.length (pT a.K b g j))(h:w (mh n g.length (i++dP.drop j)) (λk O Y=>match k with|.ret p=>Q p Y|.next=>Q .none Y|_=>False) (λc t O Y=>X c t Y) Y):aY a q f i Q X Y:=λA d M s vs l I r=>F.call ok (C▸l) I r (m.get r.length) H λenv s' x=>codeAny_func (by have J:=x;obtain⟨L,h₁,tk,rfl,rfl,kk,N,st,U⟩:=J;exact bM (u d L st _ _ _ Y _ M _ U h) (λk G y=>Vy x y) λe G y=>Vw (R:=λe D=>_) x y λD z=>z)
end
noncomputable section
open Builtin Builtin.ObjectAttr Builtin.Getset_descriptor
structure Vz (a:Cx)(c:Cl):Prop where
 JW:DO a.K (a.cy c)=true
 bh:keepIn a.K (.ref (a.cy c))=true
 DT:findIn a.K (.ref (a.cy c)) "__init__"=some (some (.ref (a.c1 .fe)))
 dict:(clsIn a.K (a.cy c)).any (·.hasDict)=true
 dp:findIn a.K (.ref (a.cy c)) At.dp.str=some none
 VA:findIn a.K (.ref (a.cy c)) "__setattr__"=some (some (.builtin "object.__setattr__"))
 VB:ti a.K (a.cy c)=true
inductive JX (b:Cx):Prop
 |mk (a:FuncData) (rs:List (Str×Nat)) (c d e f:Pos) (F:w2 b .fe a [.Assign [.Attribute (.Name "self" c) At.dp.str d] (.Name "told" e) f] ["self","told"] [.str []] 2 rs) (i:a.scope.names.lookup ("self":Str)=some NameKind.local) (j:a.scope.names.lookup ("told":Str)=some NameKind.local)
  (g:oI 1 (pT b.K a ["self","told"] 0)) (h:oI 2 (pT b.K a ["self","told"] 1))
structure tG (a:Cx):Prop where
 cls:∀c:Cl,c.hP=true->Vz a c
 wA:typeIn a.K (.ref (a.c1 .fe))=some (.type "function")
 DT:JX a
inductive VC (a:Cx)(h:Heap)(e:Addr)(b:FuncData)(c:List Value)(p:PV):Prop
 |mk (v:Value) (j:Nat) (f:(.ref e::c)++(tF a.K b.defaults).drop j=[.ref e,v]) (d:pT a.K b ["self","told"] j (.ref e::c)) (g:ag h v p)
theorem VD (j:oI 1 (pT a.K b ["self","told"] 0))(k:oI 2 (pT a.K b ["self","told"] 1))(i:aJ h (tF a.K b.defaults) [.str []])(r:aJ h f d)(l:f.length<=1):VC a h e b f (d.headD (.str [])):=by
 cases f with
 |nil=>obtain⟨v,m,q,c,g⟩:=i.un;exact⟨v,0,by refine B q (B g.vm ?_);rfl,j.get rfl,B (List.eq_nil_of_length_eq_zero r.length.symm) c⟩
 |cons v w=>
  rw[(List.eq_nil_of_length_eq_zero (Nat.le_zero.mp (Nat.le_of_succ_le_succ l)))] at r⊢;cases d with
  |nil=>exact nomatch r.length
  |cons p d=>
   obtain⟨n,m,q,c,g⟩:=r.un;injection q with q;subst q
   exact⟨v,1,by refine B (BE (ju i.length):List.drop 1 _=_) ?_;rfl,k.get rfl,c⟩
section
variable (ok:c7 a)(d:tG a)
include d in
theorem VE (N:c.hP=true)(K0:a.K.In s.heap)(VF:s.heap.NoLimit)(VG:A.depth<recursionLimit)(m:s.heap.get? e=some (j9 (a.cy c) t))(r:aJ s.heap H ps)(hlen:H.length<=1)
  (L:∀h k g v n T,(∀b o,b≠e->s.heap.get? b=some o->h.get? b=some o)->h.get? e=some {cls:=.ref (a.cy c),dict:=some g,data:=.fields #[.ref t,.none,.none,.none,.bool false,.none]}->s.heap.get? g=none->g≠e->
   h.get? g=some (dictOf [⟨PyData.keyHash a.w.params At.dp.str,.str At.dp.str T,v⟩] n)->ag s.heap v (ps.headD (.str []))->R (.ok (.ret .none)) (aa s h k)):
  codeAny (model a.prog a.w) A (.call (.ref (a.c1 .fe)) ⟨.ref e::H,[]⟩) R s:=by
 obtain⟨l,rs,p1,p2,p3,p4,F,u,w,G,U⟩:=d.DT;have ec:=d.cls c N;refine ai (any_some ec.dict) λcd k1 k2=>Ke F.obj λoc qV=>eJ qV λod Se J=>?_;obtain⟨v,j,VH,M,rv⟩:=VD (e:=e) G U (F.dv _ K0) r hlen;refine codeAny_call_function VG (K0 _ _ J) rfl F.co F.fu F.body (codeRec_of K0 F.cd) (Looks.here (Looks.of_peek K0 (M _)) (B F.cH (B F.JU (B F.blt (B VH (wpAny_newFunctionEnv_cells F.aV.kind (λx hx=>(F.aV.JS x.1 (List.of_mem_zip hx).1).imp id λz=>⟨z.1,z.2 _⟩) λenv Q s' ic=>?_))))));obtain⟨⟨⟨p,k,I⟩,ns,f,O⟩,O⟩:=ic;subst I;subst Q;refine⟨VF.keeps f,codeAny_func (wpAny_execs_cons (wpAny_Assign_stores (wpAny_Name (yu F.aV.kind w ns (Ae (k:=(gN l s.heap.objs.size (a.c1 .fe)).kindOf) (l:=[("self",.ref e),("told",v)]) (m:=λO=>none) (i:=1) F.aV.nd rfl w) (?_:wpAny _ _ (assign (.Attribute (.Name "self" p1) At.dp.str p2) _ v) _ _ _)) rfl) rfl rfl))⟩;rw[arm_assign_Attribute];refine ae (dm (wpAny_Name (yu F.aV.kind u ns (Ae (k:=(gN l s.heap.objs.size (a.c1 .fe)).kindOf) (l:=[("self",.ref e),("told",v)]) (m:=λO=>none) (i:=0) F.aV.nd rfl u) (ae (il (ae (dm (Vo .dp (s:=aa s p k) (K0.keeps f) (f _ _ m) k1 k2 ec.dp ec.VA ec.VB λdH dI C D i=>wpAny_release (uV (Ke i λn i=>?_)))))))) rfl));have y:s.heap.get? p.objs.size=none:=gu (λo q z=>nn z (f _ _ q)) (fY (dE _));exact L dH dI _ v n _ (λb o n e=>C b o n (f b o e)) D y (λq=>nn y (q▸m)) i rv
end
section
variable (ok:c7 d)(f:tG d){rs:List (Str×Nat)}
include ok f in
theorem VI (c:Cl)(JY:c.hP=true)(hk:p.kindOf x=some .globalImplicit)(hd:(x==("__debug__":Str))=false)(hv:Gv d x (.ref (d.cy c)))
  (JZ:(backTo H (starEach C p)).any (·.1)=false) (zP:iQ d N p rs hc q C ws):
  Sx d N p rs hc q (.Raise (some (.Call (.Name x np) C [] H)) none pos) (λk O X Y=>q=false/\ws k (λvs Y=>vs.length<=1/\X c (vs.headD (.str [])) k Y) (λc t=>X c t k) Y):=λk Q X Y A δ s U h=>by
 refine Ka h λhq h=>?_;have ec:=f.cls c JY;have x1:=ec.JW;rw[arm_exec_Raise];refine ae (il (?_:wpAny _ A (raiseStmt p (some (do let v←eval (.Call (.Name x np) C [] H) p;standAt pos;pure v)) none) _ _ s));unfold raiseStmt;refine ae (ae (n6 (jC hk hd hv U (callWith_of (P:=d.K.In) (by refine B JZ ?_;rfl) (keeps_K ec.bh) ?_))));refine m9 JZ (l8 U (zP H k _ _ Y A δ s U h) λvs ps J I i tk g l r hz=>⟨jY ok g.ak,Ka hz λhlen hX=>?_⟩);have K0:d.K.In i:=jY ok g.ak;have J0:vs.length<=1:=B r.length hlen;have hl0:([]++vs:List Value).length<=100:=by simp only[List.nil_append];exact aw (by assumption) dc
 refine(?_:wpAny _ A (call (.ref (d.cy c)) ([]++vs)) _ _ (aa s i tk));rw[gH];refine n7 (Vm (DP K0 x1) (looks_findIn K0 ec.DT) (aw J0 dc) (λoG=>bind_fn K0 oG f.wA) ?_);have u:∀b o,i.get? b=some o->((i.push (ny vs)).push (j9 (d.cy c) i.objs.size)).get? b=some o:=λb o e=>cR _ (cR _ e);have he:((i.push (ny vs)).push (j9 (d.cy c) i.objs.size)).get? (i.objs.size+1)=some (j9 (d.cy c) i.objs.size):=by heap_get
 have G:i.get? (i.objs.size+1)=none:=fY (qD _);refine VE f (s:=aa s ((i.push (ny vs)).push (j9 (d.cy c) i.objs.size)) tk) (c:=c) JY (K0.keeps u) ((ok.nolimit.keeps λb o e=>g.ak.hW b o e).keeps u) ?_ he (aJ.bU (lY u) r) J0 λj w z v n T M y a3 a4 a5 rv=>⟨rfl,?_⟩
 ·have:=U.ok.depth
  exact((B (rfl:(Code.builtin "type.__call__" ⟨.ref (d.cy c)::vs,[]⟩).weight=1) (uN (aw (qy (gn _ _) dc) this))):A.depth+(Code.builtin "type.__call__" ⟨.ref (d.cy c)::vs,[]⟩).weight<1000)
 have k2:fp i j:=λb o e=>M b o (λq=>by rw[q,G] at e;injection e) (u b o e);have g2:Go d N J I i J I j:=Go.ext g.ak k2;have L:=DP (M:=model d.prog d.w) (K0.keeps k2) x1;have t1:Looks (model d.prog d.w) j (typeOf (.ref (i.objs.size+1))) (.ref (d.cy c)):=(Looks.ld y).andThen .now;have t3:Looks (model d.prog d.w) j (isType (.ref (i.objs.size+1))) false:=(Looks.ld y).andThen .now;refine ae (il (aU (ae (aU (ae (dm (((λm=>(t3.andThen .now:Looks (model d.prog d.w) j (isExcClass (.ref (i.objs.size+1))) false).andThen ((t1.andThen L.JQ).andThen .now):∀m,Looks (model d.prog d.w) j (excFromValue (.ref (i.objs.size+1)) m) (.ref (i.objs.size+1))) _).here (s:=aa s j w) (ae (t3.here (s:=aa s j w) (ae ((t1.andThen (L.ty.andThen .now):Looks (model d.prog d.w) j (raisedInstance (.ref (i.objs.size+1))) (.ref (i.objs.size+1))).here (s:=aa s j w) (ae (ae (lL (s:=aa s j w) y rfl (i:=1) (x:=.none) rfl (aU (wpAny_raiseNew_none (U.ok.quiet hq) ?_))))))))))))))));have J1:((i.push (ny vs)).push (j9 (d.cy c) i.objs.size)).get? z=none:=a3;have zd:i.get? z=none:=by
  cases q:i.get? z with
  |none=>rfl
  |some o=>rw[u _ _ q] at J1;injection J1
 exact⟨_,c,_,k,J,I,j,w,rfl,rfl,(g.trans g2).bp U.I,l.go g.ak g2,⟨_,z,_,n,_,y,rfl,rfl,rfl,lG (by decide:1<6) (ju rfl),a5,.cons (ag.bU (λa ws t=>by exact ai (id t) λo D hr=>aQ o (M a o (λq=>by have pP:=hr.1;rw[q,he] at D;rw[←bo D] at pP;exact nomatch (show Value.ref (d.cy c)=Value.type "tuple" from pP)) D) hr) rv) .nil,(g.bh.bO _ G),g.bh.bO _ zd,jT a4,λo=>g.ak.mt.bO o G,λo=>g.ak.mt.bO o zd,.no rfl⟩,hX⟩
end
end
section
theorem cE.s7 (g:cE d i p Y D h f j m)(u:d.base.get? z=none)(H:h.get? z=none)(v:z∉cM i)(C:¬bF f j z)
  (A:eT d δ' m z o) (l:∀a,a≠z->δ' a=j a) (k:∀c e,o=.bc c e->d.base.get? (δ' z)=none/\h.get? (δ' z)=none/\δ' z∉cM i/\δ' z≠z/\¬bF f j (δ' z)):cE d i p Y D h (f.set z o) δ' m:=by
 have n:∀b,bF (f.set z o) δ' b->bF f j b∨(d.base.get? b=none/\b∉cM i)/\h.get? b=none:=λb x=>by
  rcases bF.dA l x with x|q|⟨⟨c,e,w⟩,q⟩
  ·exact .inl x
  ·exact .inr (q▸⟨⟨u,v⟩,H⟩)
  ·exact lz (k c e w) λr s t O=>.inr (q▸⟨⟨r,t⟩,s⟩)
 exact⟨⟨g.ak.hW,g.ak.frames,g.ak.mt.dA C A l (λc e q=>(k c e q).2.2.2) (λO O O x=>x) λO O x=>x,λb x=>(n b x).elim (g.ak.de b) And.left⟩,g.bh,λb x=>(n b x).elim (g.eM b) λy=>.inr y.2,g.av⟩
end
section
variable {rs:List (Str×Nat)}{E:Value->Shared->Prop}
theorem J3 (st:df n j i rs)(D:r.frames=some j)(d:bk n j Y q s.heap)(U:LR i rs Y q wM s.heap):PassesOwnAt M r A i (dW n j i rs Y q s X):=λe s' x=>by obtain⟨a,c,t,fO,σ',δ',w,h,u,v,g,l,f,z⟩:=x;refine B u ?_;refine B v ?_;refine jr st.gL λe0 outer L y C H=>?_;refine wK (s:=aa s w h) y D C H d g.ak g.bh.bO f λp k tr=>?_;refine jr tr λo vs T J N Q=>?_;refine Jk (s:=aa s p h) J N Q (tB (s:=aa s p h) _ d (g.mv d st.dU k).ak k.j6 λG I=>?_);have m:=k.trans I;exact⟨a,c,t,fO,σ',δ',G,h,rfl,rfl,g.mv d st.dU m,l.mv (λb x=>(U.c0 x).1) m,m.j6,z⟩
def pU (b:Cx) (e:List Env) (d:Env) (rs:List (Str×Nat)) (k:Nat) (l:List ExceptHandler) (w:Cl->PV->WS):Prop:=
 ∀(c:Cl) (t:PV) (j n:aP) (Q:Fl->aP->AH->Prop) (X:XR) (g Y:AH) (A:Around) (f i:Addr->Addr) (s:Shared) (h:Heap) (m:Nat) (a:Addr),eN A e k true->bk b e g f s.heap->LR d rs g f n s.heap->cE b e d g f s.heap Y i h->LR d rs Y i j h->gK b s.heap Y i h a c t->oF h a->w c t j Q X Y->
  wpAny (model b.prog b.w) A (handleBy (.ref a) d l) (cB b e d rs g f s Q) (dW b e d rs g f s X) (aa s h m)
theorem VJ (st:df j n k rs):pU j n k rs v [] (λc t d O X Y=>X c t d Y):=λc t d y Q X H Y A w r s h i a u e q g l f tr z=>by exact wpAny_handleBy_nil (Jl (s:=aa s h i) e g.ak f tr λp m=>⟨a,c,t,d,Y,r,p,i,rfl,rfl,g.mv e st.dU m,l.mv (λb x=>(q.c0 x).1) m,m.j6,z⟩)
structure Ag (a:Cx):Prop where
 sub:∀c d:Cl,d.hP=true->d≠.pf->subIn a.K (.ref (a.cy c)) (.ref (a.cy d))=some (decide (c=d))
theorem J4 (j:tG b)(so:Ag b)(i:d.hP=true)(l:d≠.pf)(K0:b.K.In s.heap)(m:s.heap.get? a=some o)(n:o.cls=.ref (b.cy c))(h:Q (decide (c=d)) s):
  wpAny (model b.prog b.w) A (excMatches (.ref a) (.ref (b.cy d))) Q E s:=by
 have f:=DP (M:=model b.prog b.w) K0 (j.cls d i).JW;obtain⟨u,q,v,k,O,O,O,O⟩:=f.obj;have p:=f.JQ;have t3:Looks (model b.prog b.w) s.heap (isInstance (.ref (b.cy d)) (.type "tuple")) false:=f.ty.andThen (Looks.of_pure tc_notTuple);have w:Looks (model b.prog b.w) s.heap (isType (.ref (b.cy d))) true:=(Looks.ld k).andThen .now;have x:Looks (model b.prog b.w) s.heap (typeOf (.ref a)) (.ref (b.cy c)):=by have:Looks (model b.prog b.w) s.heap (typeOf (.ref a)) o.cls:=(Looks.ld m).andThen .now;rwa[n] at this
 have y:Looks (model b.prog b.w) s.heap (isSubtype (.ref (b.cy c)) (.ref (b.cy d))) (decide (c=d)):=looks_subIn K0 (so.sub c d i l);obtain⟨t,g,r,z,os⟩:=s;unfold excMatches
 repeat(first|simp only[Bool.false_eq_true,if_false,if_true,Bool.not_true]|lk|wp_step)
 by_cases e:c=d
 ·rw[f3 e] at h⊢
  exact aU (aU (aU h))
 ·rw[iM e] at h⊢
  exact aU (aU (aU h))
theorem eN.J5 (a:eN A b c q)(v:Option Value):eN (A.mark v) b c true:=⟨a.frames,(λz=>by injection z),a.depth,a.units⟩
theorem VK (ok:c7 i)(U:tG i)(so:Ag i)(st:df i u m rs)(d:Cl)(J:d.hP=true)(M:d≠.pf)(N:m.kindOf x=some .globalImplicit)(L:(x==("__debug__":Str))=false)(hv:Gv i x (.ref (i.cy d)))
  (I:fy i u m rs H true (G::DU) wb) (hr:pU i u m rs H rest wr) (hw:w=λc t j Q X Y=>if c=d then wb j Q X Y else wr c t j Q X Y):pU i u m rs H (.ExceptHandler (some (.Name x np)) none (G::DU) pos::rest) w:=by
 subst hw;intro c t j wM Q X σ₀ Y A tw D s h p a y k v g l f tr z;have r:=y.J5 (some (.ref a));refine wpAny_handleBy_cons (codeAny_handlers_test (jC N L hv ⟨r,g.ak,l⟩ ?_)) (by intro q;injection q);obtain⟨o,dx,es,n,vs,p1,p2,O⟩:=id f;refine J4 U so J M (jY ok g.ak) (s:=aa s h p) p1 p2 ?_;by_cases e:c=d
 ·refine B (f3 e) ?_
  rw[aG e] at z;refine codeAny_handlers_suite (tB (s:=aa s h p) _ k g.ak f λh₁ C=>?_);have g1:=g.mv k st.dU C;refine bM (I j Q X Y _ D (aa s h₁ p) ⟨r,g1.ak,l.mv (λb x=>(v.c0 x).1) C⟩ z) (λf s' x=>x.b9 g1) λe s' x=>(J3 (M:=model i.prog i.w) (A:=A) (X:=X) st r.frames k v) _ _ (x.b9 g1)
 ·refine B (iM e) ?_
  rw[aH e] at z;exact hr c t j wM Q X σ₀ Y A tw D s h p a y k v g l f tr z
theorem VL (ok:c7 j)(eo:tG j)(so:Ag j)(st:df j envs D rs)(d:Cl)(hd:d.hP=true)(hg:d≠.pf)(hk:D.kindOf x=some .globalImplicit)(VM:(x==("__debug__":Str))=false)(hv:Gv j x (.ref (j.cy d)))
  (hx:rs.lookup n=some i) (I:D.kindOf n=some .local) (hb:fy j envs D rs hc true (VN::DU) wb) (hr:pU j envs D rs hc rest wr)
  (hw:w=λc t C Q X Y=>if c=d then i<C.length/\∀z,Y z=none->wb (C.set i (some (.ref z))) (λf C Y=>Q f (C.set i none) Y) (λO O O O=>False) (Y.set z (.bc c [(.dp,t)])) else wr c t C Q X Y):pU j envs D rs hc (.ExceptHandler (some (.Name x np)) (some n) (VN::DU) pos::rest) w:=by
 subst hw;intro c t C wM Q X σ₀ Y A tw G s h M a ao H l0 g l f tr z;have N:=ao.J5 (some (.ref a));have la:∀b,fN D b->s.heap.get? b≠none:=λb x=>(l0.c0 x).1;have hE:=J3 (M:=model j.prog j.w) (A:=A) (X:=X) st N.frames H l0;refine wpAny_handleBy_cons (codeAny_handlers_test (jC hk VM hv ⟨N,g.ak,l⟩ ?_)) (by intro q;injection q);obtain⟨o,U,es,nn,vs,p1,p2,O⟩:=id f;refine J4 eo so hd hg (jY ok g.ak) (s:=aa s h M) p1 p2 ?_;by_cases e:c=d
 ·refine B (f3 e) ?_
  rw[aG e] at z;refine codeAny_handlers_suite_as (tB (s:=aa s h M) _ H g.ak f λh₁ m₁=>?_);have p:=l.mv la m₁;obtain⟨o,U,es,nn,vs,p1,p2,p3,p4,p5,p6,p7,p8,p9,zX,wL,zY,p13⟩:=m₁.j6;refine dD (qP H p8) λVO VP O=>dD (qP H p9) λVQ VR O=>?_;have J6:∀b,b≠a->(if b=a then U else G b)=G b:=λb hb=>aH hb;have nO:∀b,s.heap.get? b≠none->¬bF Y G b->¬bF (Y.set a (.bc c [(.dp,t)])) (λb=>if b=a then U else G b) b:=λb lv n x=>by
   rcases bF.dA J6 x with x|q|⟨_,q⟩
   ·exact n x
   ·exact lv (q▸p8)
   ·rw[aG rfl] at q;exact lv (q▸p9)
  have VS:LR D rs (Y.set a (.bc c [(.dp,t)])) (λb=>if b=a then U else G b) C h₁:=
   ⟨p.kind,p.af,nO _ (la _ (.inl rfl)) p.s8,p.lt,λy k L=>aS ((p.cells y k L).1) ((p.cells y k L).2.1) (nO _ (la _ (.inr ⟨y,L⟩)) (p.cells y k L).2.2),p.pK,p.cH,p.blt⟩
  refine wF (s:=aa s h₁ M) st H (cE.s7 (z:=a) (o:=.bc c [(.dp,t)]) (δ':=λb=>if b=a then U else G b) (g.mv H st.dU m₁) VO p8 VP wL ⟨o,es,nn,p1,p2,p3.trans (br some (aG rfl).symm),.inr ⟨vs,p4⟩,(br h₁.get? (aG rfl)).trans p6,p7⟩ J6 (λO O O=>by exact B (aG rfl) (gm VQ p9 VR (jT zX) zY))) VS hx (.inl I) (.ref a) λdH dI iE pR O O=>bM (hb _ _ _ _ _ _ (aa s dH dI) ⟨N,iE.ak,pR⟩ (z.2 a (zg wL))) (λfl s' x=>?_) λe s' x=>?_
  ·obtain⟨fl',fO,σ',δ',eX,eO,rfl,qY,oE,DB,wy⟩:=x
   refine Ka (oE.af n i hx) λhi VT=>?_;cases VT with
   |dU O m hm O=>
    refine wpAny_nameGoes_keeps (s:=aa s eX eO) I hm (by refine B oE.kind ?_;rfl) λiD v VU Aa=>?_;refine lz (I8 (p:=none) st H (iE.trans qY) oE hx I hm Aa VU (λO u e=>nomatch e)) λg4 l4 O tp=>cB.now (s:=s) g4 l4 ?_ wy
    induction DB using jD.casesOn with
    |next=>exact .next
    |brk=>exact .brk
    |cont=>exact .cont
    |ret r=>exact .ret (ag.bU tp r)
   |cell J=>exact J.elim (λJ=>nomatch ss J I) λJ=>nomatch ss J I
  ·obtain⟨O,O,O,O,O,O,O,O,O,O,O,O,O,z⟩:=x
   exact z.elim
 ·refine B (iM e) ?_
  rw[aH e] at z;exact hr c t C wM Q X σ₀ Y A tw G s h M a ao H l0 g l f tr z
theorem VV (st:df j p n rs)(pos:Pos)(J:fy j p n rs w q b wb)(hh:pU j p n rs w (VW::hs) wh):
  Sx j p n rs w q (.Try b (VW::hs) [] [] pos) (λd Q X Y=>wb d Q (λc t d Y=>wh c t d Q X Y) Y):=λd Q X Y A y s U h=>by
 refine jr st.gL λe0 outer L I N M=>wpAny_Try_except (bM (J d _ _ Y A y s U h) (λf s' x=>?_) λe s' x=>?_)
 ·obtain⟨fl,C,D,H,v,i,k,g,l,r,z⟩:=x;refine B k ?_
  induction r using jD.casesOn with
  |next=>exact uV (cB.now g l .next z)
  |brk=>exact cB.now g l .brk z
  |cont=>exact cB.now g l .cont z
  |ret r=>exact cB.now g l (.ret r) z
 ·obtain⟨a,c,t,C,D,H,v,i,k,G,g,l,f,z⟩:=x;refine B k ?_;refine B G ?_
  refine wK (s:=aa s v i) I U.ok.frames N M U.I g.ak g.bh.bO f λh₁ u tr=>Jj (s:=aa s h₁ i) _ U.I (g.mv U.I st.dU u).ak u.j6 λdH m₂ VX=>?_;have m:=u.trans m₂;exact hh c t C d Q X Y D A y H s dH i a ⟨U.ok.frames,(λz=>by injection z),U.ok.depth,U.ok.units⟩ U.I U.l (g.mv U.I st.dU m) (l.mv (λb x=>(U.l.c0 x).1) m) m.j6 (VX tr) z
theorem VY (st:df a j d rs)(J:Pos)(D:fy a j d rs w q b N)(G:fy a j d rs w q (t::p) wf):
  Sx a j d rs w q (.Try b [] [] (t::p) J) (λc Q X Y=>N c (λm c Y=>wf c (λn c Y=>match n with|.next=>Q m c Y|_=>False) X Y) (λO O O O=>False) Y):=λc Q X Y A k s U h=>by
 have cj:∀(f:Flow) (i:Shared),cB a j d rs Y k s (λm c Y=>wf c (λn c Y=>match n with|.next=>Q m c Y|_=>False) X Y) f i->
   wpAny (model a.prog a.w) A (execs (t::p) d) (λg i=>match g with|.next=>cB a j d rs Y k s Q f i|g=>cB a j d rs Y k s Q g i) (notedBy (model a.prog a.w) A d (cameBackBy (model a.prog a.w) A d (dW a j d rs Y k s X))) i:=λf i x=>by
  obtain⟨m,fO,σ',δ',C,y,rfl,g,l,r,z⟩:=x;refine bM (G fO _ X σ' A δ' (aa s C y) (U.oD g l y) z) (λf2 M x=>?_) λe M x=>(passes (M:=model a.prog a.w) (X:=X) st U.ok.frames U.I U.l) _ _ (x.b9 g);obtain⟨fl2,Te,bX,eW,dH,dI,rfl,u,I,L,H⟩:=x
  induction L using jD.casesOn with
  |next=>
   refine cB.now (s:=s) (g.trans u) I ?_ H
   induction r using jD.casesOn with
   |next=>exact .next
   |brk=>exact .brk
   |cont=>exact .cont
   |ret r=>exact .ret (ag.bU u.av r)
  |_=>exact H.elim
 refine wpAny_Try_finally (bM (D c _ _ Y A k s U h) (λf i x=>?_) λe i x=>?_)
 ·cases f with
  |next=>exact uV (cj _ _ x)
  |brk=>exact cj _ _ x
  |cont=>exact cj _ _ x
  |ret v=>exact cj _ _ x
 ·obtain⟨O,O,O,O,O,O,O,O,O,O,O,O,O,z⟩:=x
  exact z.elim
end
section
variable {rs:List (Str×Nat)}
theorem VZ (h:∀l u t p,k≠.Slice l u t p)(ov a new:Value):augStore k ov a new=(do holding [new,ov,a] (setItem ov a new);release [new,ov,a] [];pure .next):=by
 cases k with
 |Slice l u t p=>exact absurd rfl (h l u t p)
 |_=>rfl
theorem V0 (ok:c7 a)(o:hJ)(p1 pos:Pos)(Jb:∀l u t p,k≠.Slice l u t p)(hb:Ex a g f rs J q b wb)(hk:Ex a g f rs J q k wk)(he:Ex a g f rs J q e w):
  Sx a g f rs J q (.AugAssign (.Subscript b k p1) o.op e pos) (λi Q X Y=>wb i (λw' Y=>wk i (λM Y=>w'.d7 (λd=>bQ (ix Y (.ref d) M) (λu=>w i (λv Y=>bQ (qM o u v) (λr=>qL Y d M r (Q .next i))) (λc t=>X c t i) Y)) False) (λc t=>X c t i) Y) (λc t=>X c t i) Y):=λi Q X Y A δ s U h=>by
 refine wpAny_AugAssign_SubscriptAny (l8 U (hb i _ _ Y A δ s U h) λov op H n j m C Tz Dp l7=>?_) (VZ Jb);have H1:dR a g f rs J q A H n i (aa s j m):=U.go C;refine bM (l8 (Ψ:=λiv s2=>wpAny (model a.prog a.w) A (getItem ov iv) (λhH wU=>wpAny (model a.prog a.w) A (eval e f) (λv zZ=>wpAny (model a.prog a.w) A (inplaceOp o.op hH v) (λnew z9=>
      wpAny (model a.prog a.w) A (setItem ov iv new) (λO=>cB a g f rs H n (aa s j m) Q .next) (dW a g f rs H n (aa s j m) X) z9) (dW a g f rs H n (aa s j m) X) zZ) (dW a g f rs H n (aa s j m) X) wU) (dW a g f rs H n (aa s j m) X) s2)
  H1 (hk i _ _ H A n _ H1 l7) λM kp bX eW D dI I pR zT N=>?_) (λO O x=>bM x (λO O x=>bM x (λO O x=>bM x (λO O x=>bM x (λO O y=>y.b9 (C.bp U.I)) λO O y=>y.b9 (C.bp U.I)) λO O y=>y.b9 (C.bp U.I)) λO O y=>y.b9 (C.bp U.I)) λO O y=>y.b9 (C.bp U.I)) λO O y=>y.b9 (C.bp U.I)
 have H2:dR a g f rs J q A bX eW i (aa s D dI):=H1.go I;have DV:=I.dQ C.ak Dp;refine jd (C:=λov=>ag D ov op->wpAny (model a.prog a.w) A (getItem ov M) (λhH wU=>wpAny (model a.prog a.w) A (eval e f) (λv zZ=>wpAny (model a.prog a.w) A (inplaceOp o.op hH v) (λnew z9=>wpAny (model a.prog a.w) A (setItem ov M new) (λO=>cB a g f rs H n (aa s j m) Q .next) (dW a g f rs H n (aa s j m) X) z9) (dW a g f rs H n (aa s j m) X) zZ) (dW a g f rs H n (aa s j m) X) wU) (dW a g f rs H n (aa s j m) X) (aa s D dI)) DV N (λd N DV=>ff N λu hu N=>n2 (HP (s:=aa s D dI) (A:=A) (E:=dW a g f rs H n (aa s j m) X) ok I.ak hu (.ref d) zT (P:=λv s3=>ag D v u/\∃tk,s3=aa s D tk) λv tk rv=>⟨rv,tk,rfl⟩) λT id i1 i2 i3=>bM i3 (λhH wU x=>Bq x λro eO V1=>B V1 ?_) λO O x=>x) DV
 have H3:dR a g f rs J q A bX eW i (aa s D eO):=⟨H2.ok,H2.I,H2.l⟩;refine bM (he i _ _ bX A eW (aa s D eO) H3 N) (λv s4 x=>?_) λO O x=>(x.bp H3.l H3.I).b9 (I.bp C.ak);obtain⟨p4,j8,Ju,iD,qX,jZ,L,V2,wz⟩:=x;refine B jZ ?_;refine ff wz λr' er wz=>bM (Dn (s:=aa s iD qX) (E:=λO O=>False) (Q:=λp' d8=>p'=r'/\d8=j8) L.ak o (L.dQ I.ak ro) V2 er ⟨rfl,rfl⟩) (λv5 s5 x5=>?_) λO O z=>z.elim;obtain⟨p5,oH,DA,k7,nh,rfl,tu,V3,rfl,rfl⟩:=x5;have G:=(I.trans L).trans tu;refine bM (It (s:=aa s k7 nh) (E:=λO O=>False) (K:=Q .next i) tu.ak (tu.dQ L.ak (L.dQ I.ak zT)) V3 wz) (λO s6 x=>?_) λO O x=>x.elim;obtain⟨fO,σ',δ',h',tk,jZ,g',l',z'⟩:=(zR.zS (K:=λfO Y=>fO=i/\Q .next i Y) (H1.l.go C.ak G) tu.ak x λO y=>⟨rfl,y⟩);refine B jZ ?_;refine Ka z' λw4 z'=>?_;subst w4;exact cB.now (s:=aa s j m) ((G.bp C.ak).trans g') l' .next z'
theorem V4 (ok:c7 b)(u:a.kindOf x=some .globalImplicit)(m:(x==("__debug__":Str))=false)(D:Gv b x (.builtin "isinstance"))(H:a.kindOf y=some .globalImplicit)(n:(y==("__debug__":Str))=false)(G:Gv b y (.type "str"))
  (j:starEach [e,.Name y c] a=[(false,eval e a),(false,eval (.Name y c) a)]) (t:Ex b f a rs l q e w):
  Ex b f a rs l q (.Call (.Name x N) [e,.Name y c] [] I) (λd Q X Y=>q=false/\w d (λv Y=>iz .isStr [v] Q Y) X Y):=λd Q X Y A J s U h=>by
 obtain⟨C,h⟩:=h;refine n6 (jC u m D U ?_);have k:(backTo I (starEach [e,.Name y c] a)).any (·.1)=false:=by refine B j ?_;rfl
 refine Dh (.inl ⟨_,rfl⟩) k (B j (spliced_cons (ar.first (t d _ X Y A J s U h) λv p M L i tk g r z=>spliced_cons (jC H n G (U.go (tk:=tk) g) (spliced_nil ?_)))));have:=Io (s:=aa s i tk) (E:=cD b f M L (aa s i tk) X) ok g.ak (U.ok.quiet C) .isStr (.cons r .nil) z;exact ar.cj g this
end
noncomputable def Ah (e:Expr):Option {y:Str×Pos//e=.Name y.1 y.2}:=if h:e.ctorIdx=23 then Expr.Name.elim (motive_1:=λe=>Option {y:Str×Pos//e=.Name y.1 y.2}) e h λx p=>some ⟨(x,p),rfl⟩ else none
noncomputable def Ai (e:Expr):Option {y:Expr×List Expr×List Keyword×Pos//e=.Call y.1 y.2.1 y.2.2.1 y.2.2.2}:=if h:e.ctorIdx=16 then Expr.Call.elim (motive_1:=λe=>Option {y:Expr×List Expr×List Keyword×Pos//e=.Call y.1 y.2.1 y.2.2.1 y.2.2.2}) e h λf a k p=>some ⟨(f,a,k,p),rfl⟩ else none
noncomputable def J7 (e:Expr):Option {y:Expr×Str×Pos//e=.Attribute y.1 y.2.1 y.2.2}:=if h:e.ctorIdx=20 then Expr.Attribute.elim (motive_1:=λe=>Option {y:Expr×Str×Pos//e=.Attribute y.1 y.2.1 y.2.2}) e h λv x p=>some ⟨(v,x,p),rfl⟩ else none
noncomputable def J8 (e:Expr):Option {y:Expr×Expr×Pos//e=.Subscript y.1 y.2.1 y.2.2}:=if h:e.ctorIdx=21 then Expr.Subscript.elim (motive_1:=λe=>Option {y:Expr×Expr×Pos//e=.Subscript y.1 y.2.1 y.2.2}) e h λv i p=>some ⟨(v,i,p),rfl⟩ else none
noncomputable def DW (e:Expr):Option {y:Option Expr×Option Expr×Option Expr×Pos//e=.Slice y.1 y.2.1 y.2.2.1 y.2.2.2}:=if h:e.ctorIdx=26 then Expr.Slice.elim (motive_1:=λe=>Option {y:Option Expr×Option Expr×Option Expr×Pos//e=.Slice y.1 y.2.1 y.2.2.1 y.2.2.2}) e h λl u t p=>some ⟨(l,u,t,p),rfl⟩ else none
noncomputable def J9 (e:Expr):Option {y:Const×Nat×Pos//e=.Constant y.1 y.2.1 y.2.2}:=if h:e.ctorIdx=19 then Expr.Constant.elim (motive_1:=λe=>Option {y:Const×Nat×Pos//e=.Constant y.1 y.2.1 y.2.2}) e h λc n p=>some ⟨(c,n,p),rfl⟩ else none
noncomputable def Kb (e:Expr):Option {y:List Expr×Nat×Pos//e=.Tuple y.1 y.2.1 y.2.2}:=if h:e.ctorIdx=25 then Expr.Tuple.elim (motive_1:=λe=>Option {y:List Expr×Nat×Pos//e=.Tuple y.1 y.2.1 y.2.2}) e h λv k p=>some ⟨(v,k,p),rfl⟩ else none
noncomputable def Kc (e:Expr):Option {y:List Expr×Pos//e=.List y.1 y.2}:=if h:e.ctorIdx=24 then Expr.List.elim (motive_1:=λe=>Option {y:List Expr×Pos//e=.List y.1 y.2}) e h λv p=>some ⟨(v,p),rfl⟩ else none
noncomputable def Kf (e:Expr):Option {y:List (Option Expr)×List Expr×Pos//e=.Dict y.1 y.2.1 y.2.2}:=if h:e.ctorIdx=6 then Expr.Dict.elim (motive_1:=λe=>Option {y:List (Option Expr)×List Expr×Pos//e=.Dict y.1 y.2.1 y.2.2}) e h λk v p=>some ⟨(k,v,p),rfl⟩ else none
noncomputable def Kg (e:Expr):Option {y:Expr×Operator×Expr×Pos//e=.BinOp y.1 y.2.1 y.2.2.1 y.2.2.2}:=if h:e.ctorIdx=2 then Expr.BinOp.elim (motive_1:=λe=>Option {y:Expr×Operator×Expr×Pos//e=.BinOp y.1 y.2.1 y.2.2.1 y.2.2.2}) e h λl o r p=>some ⟨(l,o,r,p),rfl⟩ else none
noncomputable def Kh (e:Expr):Option {y:UnaryOp×Expr×Pos//e=.UnaryOp y.1 y.2.1 y.2.2}:=if h:e.ctorIdx=3 then Expr.UnaryOp.elim (motive_1:=λe=>Option {y:UnaryOp×Expr×Pos//e=.UnaryOp y.1 y.2.1 y.2.2}) e h λo v p=>some ⟨(o,v,p),rfl⟩ else none
noncomputable def Ki (e:Expr):Option {y:BoolOp×List Expr×Pos//e=.BoolOp y.1 y.2.1 y.2.2}:=if h:e.ctorIdx=0 then Expr.BoolOp.elim (motive_1:=λe=>Option {y:BoolOp×List Expr×Pos//e=.BoolOp y.1 y.2.1 y.2.2}) e h λo v p=>some ⟨(o,v,p),rfl⟩ else none
noncomputable def Kj (e:Expr):Option {y:Expr×Expr×Expr×Pos//e=.IfExp y.1 y.2.1 y.2.2.1 y.2.2.2}:=if h:e.ctorIdx=5 then Expr.IfExp.elim (motive_1:=λe=>Option {y:Expr×Expr×Expr×Pos//e=.IfExp y.1 y.2.1 y.2.2.1 y.2.2.2}) e h λt b o p=>some ⟨(t,b,o,p),rfl⟩ else none
noncomputable def Aj (e:Expr):Option {y:Expr×List Comprehension×Scope×Pos//e=.ListComp y.1 y.2.1 y.2.2.1 y.2.2.2}:=if h:e.ctorIdx=8 then Expr.ListComp.elim (motive_1:=λe=>Option {y:Expr×List Comprehension×Scope×Pos//e=.ListComp y.1 y.2.1 y.2.2.1 y.2.2.2}) e h λe g s p=>some ⟨(e,g,s,p),rfl⟩ else none
noncomputable def Kk (e:Expr):Option {y:Expr×List CmpOp×List Expr×Pos//e=.Compare y.1 y.2.1 y.2.2.1 y.2.2.2}:=if h:e.ctorIdx=15 then Expr.Compare.elim (motive_1:=λe=>Option {y:Expr×List CmpOp×List Expr×Pos//e=.Compare y.1 y.2.1 y.2.2.1 y.2.2.2}) e h λl o r p=>some ⟨(l,o,r,p),rfl⟩ else none
theorem DX [Decidable a][Decidable b](h:(decide a||decide b)=true):a∨b:=(lU h).imp of_decide_eq_true of_decide_eq_true
theorem dy {b a:Type}{e:b}{g:a->b}{o:Option {y:a//e=g y}}{f:a->Bool}{C:b->Prop}(h:o.any (λy=>f y.1)=true)(k:∀y,f y=true->C (g y)):C e:=by
 cases o with
 |none=>injection h
 |some y=>exact B y.2 (k y.1 h)
noncomputable def k1 (f:b->Bool):List b->Bool|[a]=>f a|_=>false
def k2 (f:b->b->Bool):List b->Bool|a::r=>k1 (f a) r|[]=>false
noncomputable def k3 (f:b->b->b->Bool):List b->Bool|a::r=>k2 (f a) r|[]=>false
@[elab_as_elim] theorem nz {C:List b->Prop} (h:k1 f l=true) (k:∀a,f a=true->C [a]):C l:=by
 cases l with
 |nil=>injection h
 |cons a r=>cases r with
  |nil=>exact k a h
  |cons O O=>injection h
@[elab_as_elim] theorem tH {C:List c->Prop} (h:k2 f l=true) (k:∀a b,f a b=true->C [a,b]):C l:=by
 cases l with
 |nil=>injection h
 |cons a r=>exact nz (C:=λr=>C (a::r)) h (k a)
@[elab_as_elim] theorem DY {C:List d->Prop} (h:k3 f l=true) (k:∀a b c,f a b c=true->C [a,b,c]):C l:=by
 cases l with
 |nil=>injection h
 |cons a r=>exact tH (C:=λr=>C (a::r)) h (k a)
noncomputable def kN:List a->Bool|[]=>true|_=>false
theorem f6 (h:kN l=true):l=[]:=by cases l with|nil=>rfl|cons O O=>injection h
def eQ (f:Str->Bool) (e:Expr):Bool:=(Ah e).any λy=>f y.1.1
@[elab_as_elim] theorem gO {f:Str->Bool} {e:Expr} {C:Expr->Prop} (h:eQ f e=true) (k:∀x p,f x=true->C (.Name x p)):C e:=dy (o:=Ah e) (f:=λy=>f y.1) h λy=>k y.1 y.2
def DZ (f:Expr->List Expr->Pos->Bool) (e:Expr):Bool:=(Ai e).any λy=>kN y.1.2.2.1&&f y.1.1 y.1.2.1 y.1.2.2.2
@[elab_as_elim] theorem Kl {f:Expr->List Expr->Pos->Bool} {e:Expr} {C:Expr->Prop} (h:DZ f e=true) (k:∀g a p,f g a p=true->C (.Call g a [] p)):C e:=
 dy (o:=Ai e) (f:=λy=>kN y.2.2.1&&f y.1 y.2.1 y.2.2.2) h λ⟨g,a,b,p⟩ h=>by have q:=f6 (V h).1;exact B q (k g a p (V h).2)
noncomputable def pV (f:Str->List Expr->Bool)(e:Expr):Bool:=DZ (λg a O=>eQ (λx=>f x a) g) e
@[elab_as_elim] theorem tI {C:Expr->Prop} (h:pV f e=true) (k:∀x b a p,f x a=true->C (.Call (.Name x b) a [] p)):C e:=
 Kl h λg a p h=>gO (C:=λg=>C (.Call g a [] p)) h λx b=>k x b a p
def pW (a:Str) (f:Expr->Pos->Bool) (e:Expr):Bool:=(J7 e).any λy=>decide (y.1.2.1=a)&&f y.1.1 y.1.2.2
@[elab_as_elim] theorem w5 {a:Str} {f:Expr->Pos->Bool} {e:Expr} {C:Expr->Prop} (h:pW a f e=true) (k:∀v p,f v p=true->C (.Attribute v a p)):C e:=
 dy (o:=J7 e) (f:=λy=>decide (y.2.1=a)&&f y.1 y.2.2) h λ⟨v,x,p⟩ h=>by have q:x=a:=cf (V h).1;exact B q (k v p (V h).2)
def q9 (f:Expr->Expr->Bool) (e:Expr):Bool:=(J8 e).any λy=>f y.1.1 y.1.2.1
@[elab_as_elim] theorem Ak {f:Expr->Expr->Bool} {e:Expr} {C:Expr->Prop} (h:q9 f e=true) (k:∀v i p,f v i=true->C (.Subscript v i p)):C e:=dy (o:=J8 e) (f:=λy=>f y.1 y.2.1) h λy=>k y.1 y.2.1 y.2.2
def Km (f:Option Expr->Option Expr->Option Expr->Bool) (e:Expr):Bool:=(DW e).any λy=>f y.1.1 y.1.2.1 y.1.2.2.1
@[elab_as_elim] theorem V5 {f:Option Expr->Option Expr->Option Expr->Bool} {e:Expr} {C:Expr->Prop} (h:Km f e=true) (k:∀l u t p,f l u t=true->C (.Slice l u t p)):C e:=dy (o:=DW e) (f:=λy=>f y.1 y.2.1 y.2.2.1) h λy=>k y.1 y.2.1 y.2.2.1 y.2.2.2
def Kn (f:Const->Bool) (e:Expr):Bool:=(J9 e).any λy=>f y.1.1
@[elab_as_elim] theorem V6 {f:Const->Bool} {e:Expr} {C:Expr->Prop} (h:Kn f e=true) (k:∀c n p,f c=true->C (.Constant c n p)):C e:=dy (o:=J9 e) (f:=λy=>f y.1) h λy=>k y.1 y.2.1 y.2.2
def pX (f:List Expr->Bool) (e:Expr):Bool:=(Kb e).any λy=>f y.1.1
@[elab_as_elim] theorem tJ {f:List Expr->Bool} {e:Expr} {C:Expr->Prop} (h:pX f e=true) (k:∀c n p,f c=true->C (.Tuple c n p)):C e:=dy (o:=Kb e) (f:=λy=>f y.1) h λy=>k y.1 y.2.1 y.2.2
def Ko (f:List Expr->Bool) (e:Expr):Bool:=(Kc e).any λy=>f y.1.1
@[elab_as_elim] theorem V7 {f:List Expr->Bool} {e:Expr} {C:Expr->Prop} (h:Ko f e=true) (k:∀c p,f c=true->C (.List c p)):C e:=dy (o:=Kc e) (f:=λy=>f y.1) h λy=>k y.1 y.2
def Kp (f:List (Option Expr)->List Expr->Bool) (e:Expr):Bool:=(Kf e).any λy=>f y.1.1 y.1.2.1
@[elab_as_elim] theorem V8 {f:List (Option Expr)->List Expr->Bool} {e:Expr} {C:Expr->Prop} (h:Kp f e=true) (k:∀a v p,f a v=true->C (.Dict a v p)):C e:=dy (o:=Kf e) (f:=λy=>f y.1 y.2.1) h λy=>k y.1 y.2.1 y.2.2
def Kq (a:Operator) (f:Expr->Expr->Bool) (e:Expr):Bool:=(Kg e).any λy=>decide (y.1.2.1=a)&&f y.1.1 y.1.2.2.1
@[elab_as_elim] theorem V9 {a:Operator} {f:Expr->Expr->Bool} {e:Expr} {C:Expr->Prop} (h:Kq a f e=true) (k:∀l r p,f l r=true->C (.BinOp l a r p)):C e:=
 dy (o:=Kg e) (f:=λy=>decide (y.2.1=a)&&f y.1 y.2.2.1) h λ⟨l,o,r,p⟩ h=>by have q:o=a:=cf (V h).1;exact B q (k l r p (V h).2)
def D0 (a:UnaryOp) (f:Expr->Bool) (e:Expr):Bool:=(Kh e).any λy=>decide (y.1.1=a)&&f y.1.2.1
@[elab_as_elim] theorem Kr {a:UnaryOp} {f:Expr->Bool} {e:Expr} {C:Expr->Prop} (h:D0 a f e=true) (k:∀v p,f v=true->C (.UnaryOp a v p)):C e:=
 dy (o:=Kh e) (f:=λy=>decide (y.1=a)&&f y.2.1) h λ⟨o,v,p⟩ h=>by have q:o=a:=cf (V h).1;exact B q (k v p (V h).2)
def Ks (a:BoolOp) (f:List Expr->Bool) (e:Expr):Bool:=(Ki e).any λy=>decide (y.1.1=a)&&f y.1.2.1
@[elab_as_elim] theorem Wa {a:BoolOp} {f:List Expr->Bool} {e:Expr} {C:Expr->Prop} (h:Ks a f e=true) (k:∀v p,f v=true->C (.BoolOp a v p)):C e:=
 dy (o:=Ki e) (f:=λy=>decide (y.1=a)&&f y.2.1) h λ⟨o,v,p⟩ h=>by have q:o=a:=cf (V h).1;exact B q (k v p (V h).2)
def Kt (f:Expr->Expr->Expr->Bool) (e:Expr):Bool:=(Kj e).any λy=>f y.1.1 y.1.2.1 y.1.2.2.1
@[elab_as_elim] theorem Wc {f:Expr->Expr->Expr->Bool} {e:Expr} {C:Expr->Prop} (h:Kt f e=true) (k:∀t a b p,f t a b=true->C (.IfExp t a b p)):C e:=dy (o:=Kj e) (f:=λy=>f y.1 y.2.1 y.2.2.1) h λy=>k y.1 y.2.1 y.2.2.1 y.2.2.2
def D1 (a:List CmpOp) (f:Expr->List Expr->Bool) (e:Expr):Bool:=(Kk e).any λy=>decide (y.1.2.1=a)&&f y.1.1 y.1.2.2.1
@[elab_as_elim] theorem Ku {a:List CmpOp} {f:Expr->List Expr->Bool} {e:Expr} {C:Expr->Prop} (h:D1 a f e=true) (k:∀l r p,f l r=true->C (.Compare l a r p)):C e:=
 dy (o:=Kk e) (f:=λy=>decide (y.2.1=a)&&f y.1 y.2.2.1) h λ⟨l,o,r,p⟩ h=>by have q:o=a:=cf (V h).1;exact B q (k l r p (V h).2)
noncomputable def D2 (f:Expr->Expr->List Expr->Bool)(c:Comprehension):Bool:=decide (c.is_async=0)&&f c.target c.iter c.ifs
@[elab_as_elim] theorem We {C:Comprehension->Prop} (h:D2 f c=true) (k:∀t d b,f t d b=true->C ⟨t,d,b,0⟩):C c:=by obtain⟨t,d,b,a⟩:=c;have q:a=0:=cf (V h).1;exact B q (k t d b (V h).2)
def Kv (f:Expr->Scope->Expr->Expr->List Expr->Bool) (e:Expr):Bool:=(Aj e).any λy=>k1 (D2 (f y.1.1 y.1.2.2.1)) y.1.2.1
@[elab_as_elim] theorem Kw {f:Expr->Scope->Expr->Expr->List Expr->Bool} {e:Expr} {C:Expr->Prop} (h:Kv f e=true) (k:∀d t b a sc p,f d sc t b a=true->C (.ListComp d [⟨t,b,a,0⟩] sc p)):C e:=
 dy (o:=Aj e) (f:=λy=>k1 (D2 (f y.1 y.2.2.1)) y.2.1) h λy h=>nz (C:=λg=>C (.ListComp y.1 g y.2.2.1 y.2.2.2)) h λc h=>We (C:=λc=>C (.ListComp y.1 [c] y.2.2.1 y.2.2.2)) h λt b a=>k y.1 t b a y.2.2.1 y.2.2.2
inductive GV|gl (g:Gl)|fn (f:Fn)|cl (c:Cl)|bi (b:Bi)|range|ja|mi
def GV.w6 (g:GV):Nat×Nat:=GV.rec (λg=>(0,g.i)) (λf=>(1,f.i)) (λc=>(2,c.i.val)) (λb=>(3,b.ctorIdx)) (4,0) (5,0) (6,0) g
noncomputable def GV.Kx (y:Nat×Nat):GV:=([.gl ⟨y.2⟩,.fn ⟨y.2⟩,.cl (if h:y.2<16 then⟨⟨y.2,h⟩⟩ else .pf),.bi (Bi.ofNat y.2),.range,.ja,.mi]:List GV).getD y.1 .range
theorem GV.Ky (g:GV):GV.Kx g.w6=g:=by
 cases g with
 |cl c=>exact br GV.cl (dif_pos c.i.isLt)
 |bi b=>cases b<;>rfl
 |_=>rfl
theorem GV.Wf {o:Option GV}(h:o.map GV.w6=some g.w6):o=some g:=by
 cases o with
 |none=>cases h
 |some y=>exact br some ((GV.Ky y).symm.trans ((br GV.Kx (bo h)).trans (GV.Ky g)))
def iP.is (c:iP):Const->Bool
 |.none=>(match c with|.none=>true|_=>false)
 |.bool b=>(match c with|.bool a=>a==b|_=>false)
 |.int b=>(match c with|.int a=>a==b|_=>false)
 |.str x=>(match c with|.str l=>x.cps.toList==l|_=>false)
 |.bytes x=>(match c with|.bytes l=>cv x==l|_=>false)
 |_=>false
noncomputable def gP (e:Expr):Bool:=e.ctorIdx==22
def tK (e:Expr):Bool:=(DW e).isSome
noncomputable def tL (e:Expr):Bool:=e.ctorIdx==7
noncomputable def Kz (p:PE):Option {i:Int//p=.ab (.int i)}:=match p with|.ab (.int i)=>some ⟨i,rfl⟩|_=>none
def Al (i:Int) (p:PE):Bool:=(Kz p).any λy=>decide (y.1=i)
@[elab_as_elim] theorem D3 {i:Int} {p:PE} {C:PE->Prop} (h:Al i p=true) (k:C (.ab (.int i))):C p:=dy (o:=Kz p) (f:=λy=>decide (y=i)) h λy h=>by cases(cf h:y=i);exact k
noncomputable def KA (t:Tg):Option {i:Nat//t=.af i}:=match t with|.af i=>some ⟨i,rfl⟩|_=>none
noncomputable def Am (t:Tg):Option {i:fK//t=.av i}:=match t with|.av i=>some ⟨i,rfl⟩|_=>none
def ka (f:Nat->Bool) (t:Tg):Bool:=(KA t).any λy=>f y.1
@[elab_as_elim] theorem rf {f:Nat->Bool} {t:Tg} {C:Tg->Prop} (h:ka f t=true) (k:∀i,f i=true->C (.af i)):C t:=dy (o:=KA t) (f:=f) h k
noncomputable def t1 (f:Tg->Bool):fK->Bool|.cons a .nil=>f a|_=>false
def t2 (f:Tg->Tg->Bool):fK->Bool|.cons a r=>t1 (f a) r|.nil=>false
noncomputable def t3 (f:Tg->Tg->Tg->Bool):fK->Bool|.cons a r=>t2 (f a) r|.nil=>false
@[elab_as_elim] theorem Wg {C:fK->Prop} (h:t1 f l=true) (k:∀a,f a=true->C (.cons a .nil)):C l:=by
 cases l with
 |nil=>injection h
 |cons a r=>cases r with
  |nil=>exact k a h
  |cons O O=>injection h
@[elab_as_elim] theorem KC {C:fK->Prop} (h:t2 f l=true) (k:∀a b,f a b=true->C (.cons a (.cons b .nil))):C l:=by
 cases l with
 |nil=>injection h
 |cons a r=>exact Wg (C:=λr=>C (.cons a r)) h (k a)
@[elab_as_elim] theorem Wh {C:fK->Prop} (h:t3 f l=true) (k:∀a b c,f a b c=true->C (.cons a (.cons b (.cons c .nil)))):C l:=by
 cases l with
 |nil=>injection h
 |cons a r=>exact KC (C:=λr=>C (.cons a r)) h (k a)
def D4 (f:Nat->Nat->Bool) (t:Tg):Bool:=(Am t).any λy=>t2 (λa b=>ka (λi=>ka (f i) b) a) y.1
@[elab_as_elim] theorem KD {f:Nat->Nat->Bool} {t:Tg} {C:Tg->Prop} (h:D4 f t=true) (k:∀i j,f i j=true->C (.av (.cons (.af i) (.cons (.af j) .nil)))):C t:=
 dy (o:=Am t) (f:=λy=>t2 (λa b=>ka (λi=>ka (f i) b) a) y) h λy h=>KC (C:=λy=>C (.av y)) h λa b h=>rf (C:=λa=>C (.av (.cons a (.cons b .nil)))) h λi h=>rf (C:=λb=>C (.av (.cons (.af i) (.cons b .nil)))) h (k i)
def KG (f:Nat->Nat->Nat->Bool) (t:Tg):Bool:=(Am t).any λy=>t3 (λa b c=>ka (λi=>ka (λj=>ka (f i j) c) b) a) y.1
@[elab_as_elim] theorem Wj {f:Nat->Nat->Nat->Bool} {t:Tg} {C:Tg->Prop} (h:KG f t=true) (k:∀i j m,f i j m=true->C (.av (.cons (.af i) (.cons (.af j) (.cons (.af m) .nil))))):C t:=
 dy (o:=Am t) (f:=λy=>t3 (λa b c=>ka (λi=>ka (λj=>ka (f i j) c) b) a) y) h λy h=>Wh (C:=λy=>C (.av y)) h λa b c h=>rf (C:=λa=>C (.av (.cons a (.cons b (.cons c .nil))))) h λi h=>rf (C:=λb=>C (.av (.cons (.af i) (.cons b (.cons c .nil))))) h λj h=>rf (C:=λc=>C (.av (.cons (.af i) (.cons (.af j) (.cons c .nil))))) h (k i j)
section
variable (d:List (Str×GV))
noncomputable def fP (sc:Scope)(x:Str)(g:GV):Bool:=decide ((d.lookup x).map GV.w6=some g.w6)&&decide (sc.names.lookup x=some .globalImplicit)&&!(x==("__debug__":Str))
noncomputable def KH (f:List (Str×Nat)->Bool)(t:Tg)(e:Expr):Bool:=
 ka (λi=>eQ (λx=>f [(x,i)]) e) t||D4 (λi j=>pX (k2 λa b=>eQ (λx=>eQ (λy=>f [(x,i),(y,j)]) b) a) e) t
@[elab_as_elim] theorem KI {e:Expr} {C:Tg->Expr->Prop} (h:KH f t e=true) (k:∀i x p,f [(x,i)]=true->C (.af i) (.Name x p)) (n:∀i j x y p g m c,f [(x,i),(y,j)]=true->C (.av (.cons (.af i) (.cons (.af j) .nil))) (.Tuple [.Name x p,.Name y g] m c)):C t e:=
 (lU h).elim (λh=>rf (C:=λt=>C t e) h λi h=>gO h λx p=>k i x p)
  λh=>KD (C:=λt=>C t e) h λi j h=>tJ h λl m c h=>tH (C:=λl=>C _ (.Tuple l m c)) h λa b h=>gO (C:=λa=>C _ (.Tuple [a,b] m c)) h λx p h=>gO (C:=λb=>C _ (.Tuple [_,b] m c)) h λy g=>n i j x y p g m c
noncomputable def w7 (scope sc:Scope):Scope:=
 {scope with names:=scope.names.map λ(n,k)=>if(k==.free&&sc.kind==.function&&sc.names.lookup n==some .cell) then(n,.cell) else(n,k)}
noncomputable def oJ (scope:Scope)(rs:List (Str×Nat)):List (Str×Nat):=scope.names.filterMap λy=>if y.2==.free then(rs.lookup y.1).map (y.1,·) else none
def w8 (sc:Scope) (rs:List (Str×Nat)) (scope:Scope) (tn:List (Str×Nat)):Bool:=
 decide (scope.kind=.function)&&scope.names.all (λy=>!(y.2==.cell))&&scope.names.all (λy=>!(y.2==.local)||decide (scope.names.lookup y.1=some .local))&&
 scope.names.all (λy=>!(y.2==.free)||((rs.lookup y.1).isSome&&(decide (sc.names.lookup y.1=some .cell)||decide (sc.names.lookup y.1=some .free))))&&
 tn.all (λy=>decide (scope.names.lookup y.1=some .local)&&decide (tn.lookup y.1=some y.2))&&
 (oJ scope rs).all (λy=>decide (scope.names.lookup y.1=some .free)&&decide (rs.lookup y.1=some y.2)&&(decide (sc.names.lookup y.1=some .cell)||decide (sc.names.lookup y.1=some .free))&&tn.all (λz=>!(z.2==y.2)))&&
 (match tn with|[(x,i),(y,j)]=>!(x==y)&&!(i==j)|_=>true)
noncomputable def iF:PE->Bool
 |.dF e=>iF e
 |.bV _ f=>Ao f
 |.ite c a b=>iF c&&iF a&&iF b
 |.vK .. =>false
 |.y4 _=>false
 |_=>true
where Ao:da->Bool
 |.nil=>true
 |.cons e r=>iF e&&Ao r
noncomputable def tM (no:Bool)(w:Expr->Bool):Option Expr->Bool
 |none=>no
 |some e=>w e
def da.a8 (a:da):Bool:=match a with|.nil=>false|.cons _ r=>!r.has
@[elab_as_elim] theorem da.G5 {C:da->Prop} (h:b.a8=true) (k:∀a,C (.cons a .nil)):C b:=by
 cases b with
 |nil=>injection h
 |cons a r=>cases r with
  |nil=>exact k a
  |cons O O=>injection h
def D5 (no:Bool) (w:Expr->Bool) (a:List Expr):Bool:=if no then kN a else k1 w a
mutual
noncomputable def bu (sc:Scope)(rs:List (Str×Nat)):PE->Expr->Bool
 |.ab c,e=>Kn c.is e
 |.af i,e=>eQ (λx=>decide (rs.lookup x=some i)&&!(x==("__debug__":Str))&&!(x==("__classdict__":Str))) e
 |.cH g,e=>eQ (λx=>fP d sc x (.gl g)) e
 |.aj o a,e=>pW a.str (λv O=>wx v&&bu sc rs o v) e
 |.item a b,e=>q9 (λv i=>!tK i&&bu sc rs a v&&bu sc rs b i) e
 |.d5 a lo q st,e=>q9 (λv i=>bu sc rs a v&&Km (λl u t=>tM (lo.iy) (bu sc rs lo) l&&tM (q.iy) (bu sc rs q) u&&tM (st.iy) (bu sc rs st) t) i) e
 |.no,_=>false
 |.bq o a b,e=>Kq o.op (λl r=>bu sc rs a l&&bu sc rs b r) e
 |.neg a,e=>D0 .USub (bu sc rs a) e
 |.dF a,e=>D0 .Not (bu sc rs a) e
 |.bV k h,e=>Ks (iS k) (λj=>h.has&&gz sc rs h j) e
 |.aM o a b,e=>D1 [o.op] (λl n=>bu sc rs a l&&k1 (λr=>!behindInMarks o.op r&&bu sc rs b r) n) e
 |.vK o p a b c,e=>D1 [o.op,p.op] (λl n=>bu sc rs a l&&k2 (λr H=>!behindInMarks o.op r&&!behindInMarks p.op H&&bu sc rs b r&&bu sc rs c H) n) e
 |.ite c a b,e=>Kt (λt x y=>iF c&&bu sc rs c t&&bu sc rs a x&&bu sc rs b y) e
 |.tuple h,e=>pX (gz sc rs h) e
 |.list h,e=>Ko (gz sc rs h) e
 |.dict U,e=>Kp (λA j=>w9 sc rs U A j&&decide (A.length<=15)) e
 |.c4 I t s cond,e=>Kv (λJ scope C z L=>!tL z&&oK sc rs s (bu sc rs s) z C&&KH (λtn=>w8 sc rs scope tn&&bu (w7 scope sc) (tn++oJ scope rs) I J&&
   D5 (cond.iy) (λG=>iF cond&&bu (w7 scope sc) (tn++oJ scope rs) cond G) L) t C) e
 |.call f h,e=>pV (λx j=>fP d sc x (.fn f)&&gz sc rs h j) e
 |.fv c h,e=>pV (λx j=>!c.hP&&fP d sc x (.cl c)&&gz sc rs h j) e
 |.bi b h,e=>pV (λx j=>if decide (b=.isStr) then k2 (λv w=>eQ (λy=>h.a8&&fP d sc x .mi&&fP d sc y (.bi .str)&&gz sc rs h [v]) w) j else fP d sc x (.bi b)&&gz sc rs h j) e
 |.au o m h,e=>DZ (λg j M=>pW m.str (λv D=>wx v&&(D.endLine==M.line)&&decide (j.length<30)&&bu sc rs o v&&gz sc rs h j) g) e
 |.range ..,_=>false
 |.ja ..,_=>false
 |.y4 _,_=>false
 |.pA,_=>true
noncomputable def oK (sc:Scope)(rs:List (Str×Nat)):PE->(Expr->Bool)->Expr->Expr->Bool
 |.range a b s,_,e,_=>pV (λx g=>fP d sc x .range&&(k1 (λc=>Al 0 a&&Al 1 s&&!gP c&&bu sc rs b c) g||k2 (λf c=>Al 1 s&&!gP f&&!gP c&&bu sc rs a f&&bu sc rs b c) g||
   k3 (λf c h=>!gP f&&!gP c&&!gP h&&bu sc rs a f&&bu sc rs b c&&bu sc rs s h) g)) e
 |.ja a,_,e,t=>pX (λO=>true) t&&pV (λx g=>fP d sc x .ja&&k1 (λv=>!gP v&&bu sc rs a v) g) e
 |_,w,e,_=>w e
noncomputable def gz (sc:Scope)(rs:List (Str×Nat)):da->List Expr->Bool
 |.nil,a=>kN a
 |.cons e b,a=>(match a with|v::a=>!gP v&&bu sc rs e v&&gz sc rs b a|[]=>false)
noncomputable def w9 (sc:Scope)(rs:List (Str×Nat)):vL->List (Option Expr)->List Expr->Bool
 |.nil,a,b=>kN a&&kN b
 |.cons k v c,a,b=>(match a with|k'::a=>(match b with|v'::b=>tM false (bu sc rs k) k'&&bu sc rs v v'&&w9 sc rs c a b|[]=>false)|[]=>false)
end
end
structure je (a:Cx)(d:List (Str×GV)):Prop where
 ok:c7 a
 ck:wq a
 mo:I3 a
 eo:tG a
 so:Ag a
 gl:∀x g,d.lookup x=some (.gl g)->∃v,Gv a x v/\∀h,a.base.StaysIn h->ag h v g.pv
 fn:∀x f,d.lookup x=some (.fn f)->Gv a x (.ref (a.c1 f))/\keepIn a.K (.ref (a.c1 f))=true
 cl:∀x c,d.lookup x=some (.cl c)->Gv a x (.ref (a.cy c))/\(c.hP=false->Di a c)
 bi:∀x b,d.lookup x=some (.bi b)->Gv a x b.val
 range:∀x,d.lookup x=some .range->Gv a x (.type "range")
 ja:∀x,d.lookup x=some .ja->Gv a x (.type "enumerate")
 mi:∀x,d.lookup x=some .mi->Gv a x (.builtin "isinstance")
theorem h7 {e:Expr}(h:gP e=false)(b:List Expr)(a:Env):starEach (e::b) a=(false,eval e a)::starEach b a:=by cases e<;>first|rfl|injection h
theorem tN {a:List Expr}(h:∀e∈a,gP e=false)(b:Env)(f:Pos):(backTo f (starEach a b)).any (·.1)=false/\(backTo f (starEach a b)).all (!·.1)=true:=by
 induction a with
 |nil=>exact⟨rfl,rfl⟩
 |cons e r g=>refine Ka (g λe m=>h e (cn _ m)) λc d=>?_;rw[h7 (h e bP)];unfold backTo at c d⊢;exact B c3 (B kM (B List.all_cons (B c (B d ⟨rfl,rfl⟩))))
section
variable (K:je f m)
structure dJ (d:List Env)(a:Env)(sc:Scope):Prop where
 scope:a.scope=sc
 gL:∃e0 r L,d=e0::r/\e0.frame=some L/\a.frame=some L
theorem dJ.kind {d:List Env}{a:Env}{sc:Scope}(E:dJ d a sc){x:Str}{k:Option NameKind}(h:sc.names.lookup x=k):a.kindOf x=k:=by unfold Env.kindOf;exact B E.scope h
theorem mj {sc:Scope}{x:Str}{g:GV}(h:fP m sc x g=true):m.lookup x=some g/\sc.names.lookup x=some .globalImplicit/\(x==("__debug__":Str))=false:=by have h:=V h;exact aS (GV.Wf (cf (V h.1).1)) (cf (V h.1).2) (cw h.2)
theorem Ex.imp {d:List Env}{b:Env}{rs:List (Str×Nat)}{j:Nat}{q:Bool}{e:Expr}{w c:WE}(h:Ex f d b rs j q e w)(k:∀a Q X Y,c a Q X Y->w a Q X Y):Ex f d b rs j q e c:=λa Q X Y A g s U z=>h a Q X Y A g s U (k a Q X Y z)
theorem Tx.imp {d:List Env}{b:Env}{rs:List (Str×Nat)}{j:Nat}{q:Bool}{e:Expr}{w c:WB}(h:Tx f d b rs j q e w)(k:∀a Q X Y,c a Q X Y->w a Q X Y):Tx f d b rs j q e c:=λa Q X Y A g s U z=>h a Q X Y A g s U (k a Q X Y z)
theorem gM.imp {d:List Env}{b:Env}{rs:List (Str×Nat)}{j:Nat}{q:Bool}{t e:Expr}{w c:WI}(h:gM f d b rs j q t e w)(k:∀a Q X Y,c a Q X Y->w a Q X Y):gM f d b rs j q t e c:=λa Q X Y A i s g U z=>h a Q X Y A i s g U (k a Q X Y z)
variable (d:List Env)(j:Nat)(q:Bool)
def bz (m:List (Str×GV)) (f:Cx) (d:List Env) (j:Nat) (q:Bool) (p:PE):Prop:=∀(sc:Scope) (rs:List (Str×Nat)) (a:Env) (e:Expr),dJ d a sc->
 (bu m sc rs p e=true->Ex f d a rs j q e (W (aY f) f.ht j q p))/\(bu m sc rs p e=true->iF p=true->Tx f d a rs j q e (T (aY f) f.ht j q p (W (aY f) f.ht j q p)))/\
 (∀t,oK m sc rs p (bu m sc rs p) e t=true->gM f d a rs j q t e (Wi (aY f) f.ht j q p (W (aY f) f.ht j q p)))
def jG (m:List (Str×GV)) (f:Cx) (d:List Env) (j:Nat) (q:Bool) (p:da):Prop:=∀(sc:Scope) (rs:List (Str×Nat)) (c:Env) (b:List Expr),dJ d c sc->gz m sc rs p b=true->
 (∀e∈b,gP e=false)/\iQ f d c rs j q b (Ws (aY f) f.ht j q p)/\(iF.Ao p=true->∀k,wm f d c rs j q (iS k) b (Ts (aY f) f.ht j q k p))/\
 (∀k,p.has=true->pO f d c rs j q (iS k) b (Wb (aY f) f.ht j q k p))/\∀a v,p=.cons a .nil->b=[v]->Ex f d c rs j q v (W (aY f) f.ht j q a)
def xa (m:List (Str×GV)) (f:Cx) (d:List Env) (j:Nat) (q:Bool) (p:vL):Prop:=∀(sc:Scope) (rs:List (Str×Nat)) (a:Env) (b:List (Option Expr)) (c:List Expr),dJ d a sc->w9 m sc rs p b c=true->
 Dx f d a rs j q b c (Wd (aY f) f.ht j q p)
include K in
theorem bz.plain {d:List Env}{j:Nat}{q:Bool}{p:PE}(s:∀i Q X Y,T (aY f) f.ht j q p (W (aY f) f.ht j q p) i Q X Y->W (aY f) f.ht j q p i (λv Y=>v.hN (λb=>Q b Y) False) X Y)
  (r:∀i k X Y,Wi (aY f) f.ht j q p (W (aY f) f.ht j q p) i k X Y->W (aY f) f.ht j q p i (λv Y=>lV v Y λl g=>k l g Y) X Y)
  (u:∀sc rs e t,oK m sc rs p (bu m sc rs p) e t=bu m sc rs p e)
  (h:∀(sc:Scope) (rs:List (Str×Nat)) (a:Env) (e:Expr),dJ d a sc->bu m sc rs p e=true->Ex f d a rs j q e (W (aY f) f.ht j q p)/\(iF p=true->∀n,isTrue e a n=(do let v←n;standAt e.pos;holding [v] (truthy v)))):bz m f d j q p:=λsc rs a e E=>
 ⟨λc=>(h sc rs a e E c).1,λc t=>(RZ (h sc rs a e E c).1 ((h sc rs a e E c).2 t)).imp s,λt c=>(Dv K.ok (h sc rs a e E ((u sc rs e t).symm.trans c)).1).imp r⟩
section
variable {d:List Env}{j:Nat}{q:Bool}
include K
omit K in
theorem Wk {c:iP}{P:iP->Prop}(h:c.is .none=true)(k:P .none):P c:=by cases c<;>first|exact k|injection h
omit K in
theorem Wl {c:iP}{b:Bool}{P:iP->Prop}(h:c.is (.bool b)=true)(k:P (.bool b)):P c:=by cases c<;>first|(have a:=(bG.mp h);exact B a k)|cases h
omit K in
theorem Wm {c:iP}{b:Int}{P:iP->Prop}(h:c.is (.int b)=true)(k:P (.int b)):P c:=by cases c<;>first|(have a:=(bG.mp h);exact B a k)|cases h
omit K in
theorem Wn {c:iP}{b:Str}{P:iP->Prop}(h:c.is (.str b)=true)(k:P (.str b.cps.toList)):P c:=by cases c<;>first|(have a:=(bG.mp h);subst a;exact k)|cases h
omit K in
theorem Wo {c:iP}{b:List UInt8}{P:iP->Prop}(h:c.is (.bytes b)=true)(k:P (.bytes (cv b))):P c:=by cases c<;>first|(have a:=(bG.mp h);exact az a k)|cases h
theorem Wq (c:iP):bz m f d j q (.ab c):=
 bz.plain K (λO O O O h=>h) (λO O O O h=>h) (λO O O O=>rfl) λsc rs a e O i=>V6 i λk n g h=>⟨by
  cases k with
  |none=>exact Wk (P:=λc=>Ex f d a rs j q _ (W (aY f) f.ht j q (.ab c))) h (RN n g)
  |bool b=>exact Wl (P:=λc=>Ex f d a rs j q _ (W (aY f) f.ht j q (.ab c))) h (RO b n g)
  |int b=>exact Wm (P:=λc=>Ex f d a rs j q _ (W (aY f) f.ht j q (.ab c))) h (RM b n g)
  |str b=>exact Wn (P:=λc=>Ex f d a rs j q _ (W (aY f) f.ht j q (.ab c))) h (RP _ n g rfl)
  |bytes b=>exact Wo (P:=λc=>Ex f d a rs j q _ (W (aY f) f.ht j q (.ab c))) h (RQ _ n g rfl)
  |_=>exact Bool.noConfusion h,λO O=>rfl⟩
theorem Wr (i:Nat):bz m f d j q (.af i):=
 bz.plain K (λO O O O h=>h) (λO O O O h=>h) (λO O O O=>rfl) λsc rs a e O c=>gO c λx p h=>⟨IS (cf (V (V h).1).1) (cw (V (V h).1).2) (cw (V h).2),λO O=>rfl⟩
theorem Wu (g:Gl):bz m f d j q (.cH g):=
 bz.plain K (λO O O O h=>h) (λO O O O h=>h) (λO O O O=>rfl) λsc rs n e E c=>gO c λx p h=>by exact dD (mj h) λa b i=>ai (K.gl _ _ a) λv k l=>⟨(λt Q X Y A r s U h=>jC (E.kind b) i k U (ar.here U.I (l _ U.I.hW) h)),λO O=>rfl⟩
theorem Wv {o:PE}(a:At)(g:bz m f d j q o):bz m f d j q (.aj o a):=
 bz.plain K (λO O O O h=>h) (λO O O O h=>h) (λO O O O=>rfl) λsc rs b e E c=>w5 c λv p h=>⟨Sf K.ok K.ck a _ (V h).1 ((g sc rs b _ E).1 (V h).2),λO O=>rfl⟩
theorem Ww {a b:PE}(k:bz m f d j q a)(l:bz m f d j q b):bz m f d j q (.item a b):=
 bz.plain K (λO O O O h=>h) (λO O O O h=>h) (λO O O O=>rfl) λsc rs g e E c=>Ak c λv i p h=>⟨R8 K.ok _ ((k sc rs g _ E).1 (V (V h).1).2) ((l sc rs g _ E).1 (V h).2),λO O=>rfl⟩
omit K in
theorem D6 {p:PE}(h:p.iy=true):p=.no:=(p.G0.get h).down
theorem D7 {p:PE}(g:bz m f d j q p){sc:Scope}{rs:List (Str×Nat)}{a:Env}{o:Option Expr}(E:dJ d a sc)(c:tM p.iy (bu m sc rs p) o=true):Px f d a rs j q o (W (aY f) f.ht j q p):=by
 cases o with
 |none=>have b:=D6 c;exact B b (λk Q X Y A i s U h=>aU (ar.here U.I .none h))
 |some e=>exact((g sc rs a _ E).1 c)
theorem Wx {a lo k st:PE}(r:bz m f d j q a)(w:bz m f d j q lo)(s:bz m f d j q k)(g:bz m f d j q st):bz m f d j q (.d5 a lo k st):=
 bz.plain K (λO O O O h=>h) (λO O O O h=>h) (λO O O O=>rfl) λsc rs n e E c=>Ak c λv i p h=>V5 (V h).2 λl u t H b=>⟨(Si (λO O O O O I O O O O O O O O O g x y z A O h=>Qq I g x y z A h) _ _ ((r sc rs n _ E).1 (V h).1) (D7 K w E (V (V b).1).1) (D7 K s E (V (V b).1).2) (D7 K g E (V b).2)),λO O=>rfl⟩
theorem Wy (o:hJ){a b:PE}(i:bz m f d j q a)(k:bz m f d j q b):bz m f d j q (.bq o a b):=
 bz.plain K (λO O O O h=>h) (λO O O O h=>h) (λO O O O=>rfl) λsc rs g e E c=>V9 c λl r p h=>⟨RR o _ ((i sc rs g _ E).1 (V h).1) ((k sc rs g _ E).1 (V h).2),λO O=>rfl⟩
theorem Wz {a:PE}(g:bz m f d j q a):bz m f d j q (.neg a):=
 bz.plain K (λO O O O h=>h) (λO O O O h=>h) (λO O O O=>rfl) λsc rs b e E c=>Kr c λv p h=>⟨RS _ ((g sc rs b _ E).1 h),λO O=>rfl⟩
end
end
section
variable (K:je i j)
include K
theorem bz.jy (m:∀k f X Y,Wi (aY i) i.ht a q p (W (aY i) i.ht a q p) k f X Y->W (aY i) i.ht a q p k (λv Y=>lV v Y λl g=>f l g Y) X Y)
  (n:∀sc rs e t,oK j sc rs p (bu j sc rs p) e t=bu j sc rs p e)
  (h:∀(sc:Scope) (rs:List (Str×Nat)) (b:Env) (e:Expr),dJ d b sc->bu j sc rs p e=true->Ex i d b rs a q e (W (aY i) i.ht a q p)/\(iF p=true->Tx i d b rs a q e (T (aY i) i.ht a q p (W (aY i) i.ht a q p)))):bz j i d a q p:=λsc rs b e E=>
 ⟨λc=>(h sc rs b e E c).1,λc=>(h sc rs b e E c).2,λt c=>(Dv K.ok (h sc rs b e E ((n sc rs e t).symm.trans c)).1).imp m⟩
theorem WA (d:bz j i f g q a):bz j i f g q (.dF a):=
 bz.jy K (λO O O O h=>h) (λO O O O=>rfl) λsc rs b e E c=>Kr c λv p h=>⟨R0 _ ((d sc rs b _ E).1 h),λt=>RY _ ((d sc rs b _ E).2.1 h t)⟩
theorem WC (k:Bool)(b:jG j i d g q f):bz j i d g q (.bV k f):=
 bz.jy K (λO O O O h=>h) (λO O O O=>rfl) λsc rs a e E c=>Wa c λl p h=>⟨R7 k _ ((b sc rs a _ E (V h).2).2.2.2.1 k (V h).1),λt=>R4 k _ ((b sc rs a _ E (V h).2).2.2.1 t k)⟩
theorem WD (o:lO)(k:bz j i g n q a)(m:bz j i g n q b):bz j i g n q (.aM o a b):=
 bz.jy K (λO O O O h=>h) (λO O O O=>rfl) λsc rs d e E c=>Ku c λl r p h=>nz (V h).2 λr f=>⟨RT K.ok o _ (cw (V f).1) ((k sc rs d _ E).1 (V h).1) ((m sc rs d _ E).1 (V f).2),λO=>RV K.ok o _ (cw (V f).1) ((k sc rs d _ E).1 (V h).1) ((m sc rs d _ E).1 (V f).2)⟩
theorem WG (o p:lO)(u:bz j i f g q a)(v:bz j i f g q b)(w:bz j i f g q c):bz j i f g q (.vK o p a b c):=
 bz.jy K (λO O O O h=>h) (λO O O O=>rfl) λsc rs d e E c=>Ku c λl r x h=>tH (V h).2 λr y s=>
  have k:=V s;have m:=V k.1;have n:=V m.1
  ⟨Sk o p _ (cw n.1) (cw n.2) K.ok ((u sc rs d _ E).1 (V h).1) ((v sc rs d _ E).1 m.2) ((w sc rs d _ E).1 k.2),λt=>Bool.noConfusion t⟩
theorem WH (s:bz j i g m q c)(n:bz j i g m q a)(r:bz j i g m q b):bz j i g m q (.ite c a b):=
 bz.jy K (λO O O O h=>h) (λO O O O=>rfl) λsc rs d e E c=>Wc c λt x y p h=>
  have k:=V h;have l:=V k.1;have f:=V l.1
  ⟨RW _ ((s sc rs d _ E).2.1 f.2 f.1) ((n sc rs d _ E).1 l.2) ((r sc rs d _ E).1 k.2),λt=>RX _ ((s sc rs d _ E).2.1 f.2 f.1) ((n sc rs d _ E).2.1 l.2 (V (V t).1).2) ((r sc rs d _ E).2.1 k.2 (V t).2)⟩
theorem WJ (g:jG j i b f q d):bz j i b f q (.tuple d):=
 bz.plain K (λO O O O h=>h) (λO O O O h=>h) (λO O O O=>rfl) λsc rs a e E c=>tJ c λl k p h=>⟨R1 _ _ (g sc rs a _ E h).2.1,λO O=>rfl⟩
theorem WK (g:jG j i b f q d):bz j i b f q (.list d):=
 bz.plain K (λO O O O h=>h) (λO O O O h=>h) (λO O O O=>rfl) λsc rs a e E c=>V7 c λk p h=>⟨R2 _ (g sc rs a _ E h).2.1,λO O=>rfl⟩
omit K in
theorem WM {sc:Scope}{rs:List (Str×Nat)}(c:(w9 j sc rs b a f&&decide (a.length<=15))=true)(m:Dx i l h rs d q a f (Wd (aY i) i.ht d q b)):Ex i l h rs d q (.Dict a f e) (W (aY i) i.ht d q (.dict b)):=by
 cases a with
 |cons k r=>exact S0 e (by simp) (of_decide_eq_true (V c).2) m
 |nil=>
  cases b with
  |nil=>have g:=f6 (V (V c).1).2;exact B g (SY e)
  |cons O O O=>injection ((V c).1)
theorem WN (g:xa j i d f q a):bz j i d f q (.dict a):=
 bz.plain K (λO O O O h=>h) (λO O O O h=>h) (λO O O O=>rfl) λsc rs b e E c=>V8 c λk l p h=>⟨WM h (g sc rs b _ _ E (V h).1),λO O=>rfl⟩
theorem WO (f:Fn)(m:jG j i d l q k):bz j i d l q (.call f k):=
 bz.plain K (λO O O O h=>h) (λO O O O h=>h) (λO O O O=>rfl) λsc rs a e E c=>tI c λx n r p h=>
  have g:=mj (V h).1;have s:=m sc rs a _ E (V h).2;have b:=K.fn _ _ g.1
  ⟨So K.ok f (E.kind g.2.1) g.2.2 b.1 b.2 (tN s.1 a _).1 s.2.1,λO O=>rfl⟩
theorem WQ (c:Cl)(n:jG j i k m q l):bz j i k m q (.fv c l):=
 bz.plain K (λO O O O h=>h) (λO O O O h=>h) (λO O O O=>rfl) λsc rs a e E f=>tI f λx r t p h=>
  have d:=V (V h).1;have g:=mj d.2;have s:=n sc rs a _ E (V h).2;have b:=K.cl _ _ g.1
  ⟨(Sr K.ok c (b.2 (cw d.1)) (E.kind g.2.1) g.2.2 b.1 (tN s.1 a _).1 s.2.1).imp λO O O O h=>h.2,λO O=>rfl⟩
omit K in
theorem WR (l:a.length<30)(s:∀e∈a,gP e=false):methodCallForm a.length (backTo c (starEach a b)) []=true:=by unfold methodCallForm;refine B ((tN s b c).2) ?_;simp only[List.all_nil,Bool.true_and,List.isEmpty_nil,if_true,Nat.add_zero,decide_eq_true_eq];exact l
theorem WU (m:bE)(t:bz j i b n q o)(r:jG j i b n q p):bz j i b n q (.au o m p):=
 bz.plain K (λO O O O h=>h) (λO O O O h=>h) (λO O O O=>rfl) λsc rs a e E c=>Kl c λg x w h=>w5 h λv u h=>
  have d:=V h;have f:=V d.1;have k:=V f.1;have l:=V k.1;have s:=r sc rs a _ E d.2
  ⟨SG K.ok K.mo m l.1 (WR (cf k.2) s.1) l.2 (tN s.1 a _).1 ((t sc rs a _ E).1 f.2) s.2.1,λO O=>rfl⟩
theorem WV (r:jG j i l c q b){sc:Scope}{rs:List (Str×Nat)}(E:dJ l f sc)(h:(b.a8&&fP j sc x .mi&&fP j sc y (.bi .str)&&gz j sc rs b [v])=true):
  Ex i l f rs c q (.Call (.Name x t) [v,.Name y w] [] u) (W (aY i) i.ht c q (.bi .isStr b)):=
 have m:=V h;have n:=V m.1;have p:=V n.1;have g:=mj p.2;have d:=mj n.2;have s:=r sc rs f _ E m.2
 da.G5 (C:=λb=>(∀a,b=.cons a .nil->Ex i l f rs c q v (W (aY i) i.ht c q a))->Ex i l f rs c q (.Call (.Name x t) [v,.Name y w] [] u) (W (aY i) i.ht c q (.bi .isStr b))) p.1
  (λa k=>V4 K.ok (E.kind g.2.1) g.2.2 (K.mi _ g.1) (E.kind d.2.1) d.2.2 (K.bi _ _ d.1) (by rw[h7 (s.1 _ (eR.mpr rfl)),h7 (by rfl)];rfl) (k a rfl)) (λa e=>s.2.2.2.2 a v e rfl)
theorem WW (b:Bi)(l:jG j i f c q a){sc:Scope}{rs:List (Str×Nat)}(E:dJ f d sc)(h:(if decide (b=.isStr)=true then k2 (λv w=>eQ (λy=>a.a8&&fP j sc x .mi&&fP j sc y (.bi .str)&&gz j sc rs a [v]) w) e else fP j sc x (.bi b)&&gz j sc rs a e)=true):
  Ex i f d rs c q (.Call (.Name x m) e [] n) (W (aY i) i.ht c q (.bi b a)):=by
 by_cases k:b=.isStr
 ·subst k
  exact tH (C:=λe=>Ex i f d rs c q (.Call (.Name x m) e [] n) (W (aY i) i.ht c q (.bi .isStr a))) (f:=λv w=>eQ (λy=>a.a8&&fP j sc x .mi&&fP j sc y (.bi .str)&&gz j sc rs a [v]) w) h
   λv w h=>gO (C:=λw=>Ex i f d rs c q (.Call (.Name x m) [v,w] [] n) (W (aY i) i.ht c q (.bi .isStr a))) h λy p h=>WV K l E h
 ·rw[iM k] at h
  have h:(fP j sc x (.bi b)&&gz j sc rs a e)=true:=h;have g:=mj (V h).1;have s:=l sc rs d _ E (V h).2;exact Sn K.ok b k (E.kind g.2.1) g.2.2 (K.bi _ _ g.1) (tN s.1 d _).1 s.2.1
theorem WX (b:Bi)(g:jG j i a f q d):bz j i a f q (.bi b d):=
 bz.plain K (λO O O O h=>h) (λO O O O h=>h) (λO O O O=>rfl) λsc rs k e E c=>tI c λx l m p h=>⟨WW K b g E h,λO O=>rfl⟩
omit K in
theorem WY:bz j i f g q .pA:=λsc rs d e E=>aS (λO b Q X Y A a s U h=>False.elim h) (λO O b Q X Y A a s U h=>False.elim h) (λt O b c X Y A a s k U h=>False.elim h)
omit K in
theorem WZ:bz j i b d q .no:=λsc rs a e E=>aS (λc=>Bool.noConfusion c) (λc=>Bool.noConfusion c) (λt c=>Bool.noConfusion c)
omit K in
theorem W0 (e:PE):bz j i b d q (.y4 e):=λsc rs a e E=>aS (λc=>Bool.noConfusion c) (λc=>Bool.noConfusion c) (λt c=>Bool.noConfusion c)
end
theorem Ap (h:tL e=false)(a:Env)(x:Value):foldedSetIterable e a x=pure x:=by cases e<;>first|rfl|injection h
theorem CT.imp {tn:List (Str×Nat)}(h:CT c e q scope t tn w)(k:∀v a K X Y,l v a K X Y->w v a K X Y):CT c e q scope t tn l:=
 λC b d v p a K X Y A n s E m Q g I i j z f=>h C b d v p a K X Y A n s E m Q g I i j (k _ _ _ _ _ z) f
section
theorem oM {l:List b}(h:l.all f=true){a:b}(m:a∈l):f a=true:=List.all_eq_true.mp h a m
theorem KJ {l:List (Str×c)}{x:Str}{v:c}(h:l.lookup x=some v):(x,v)∈l:=by exact fj (uG.mp h) λa b e O=>B e (fX _ bP)
theorem W2 {k a:NameKind}(h:k=a):(k==a)=true:=B h (beq_self_eq_true _)
theorem KL {k a:NameKind}(h:(!(k==a)||b)=true)(p:k=a):b=true:=by rw[W2 p] at h;exact h
theorem nB [BEq c][LawfulBEq c]{a b:c}(h:(!(a==b))=true):a≠b:=λe=>by rw[e,beq_self_eq_true] at h;injection h
theorem KN {sc:Scope}{rs:List (Str×Nat)}{x:Str}{p:Pos}(c:w8 sc rs scope [(x,i)]=true):CT cx b q scope (.Name x p) [(x,i)] (λv=>Wt (aY cx) cx.ht hc q (.af i) v):=
 have a:=V (V (V c).1).1
 UB _ (cf (V (V (V a.1).1).1).1) (cf (V (oM a.2 bP)).1)
theorem D8 {K:aP->AH->Prop}{P:Prop}(h:lW C m l q (.cons (.af i) (.cons (.af j) .nil)) f c K X Y)
  (k:∀a b,f=[a,b]->i<c.length->j<(c.set i (some a)).length->K ((c.set i (some a)).set j (some b)) Y->P):P:=by
 cases f with
 |nil=>exact False.elim h
 |cons a r=>
  cases r with
  |nil=>exact False.elim (show i<c.length/\False from h).2
  |cons b g=>
   have e:i<c.length/\j<(c.set i (some a)).length/\lW C m l q .nil g ((c.set i (some a)).set j (some b)) K X Y:=h;cases g with
   |nil=>exact k a b rfl e.1 e.2.1 e.2.2
   |cons O O=>exact False.elim e.2.2
theorem KO {sc:Scope}{rs:List (Str×Nat)}{i j m:Nat}{x y:Str}{p s t:Pos}(c:w8 sc rs scope [(x,i),(y,j)]=true):CT cx z q scope (.Tuple [.Name x p,.Name y s] m t) [(x,i),(y,j)] (λv=>Wt (aY cx) cx.ht hc q (.av (.cons (.af i) (.cons (.af j) .nil))) v):=
 have g:=V c;have f:=V (V g.1).1;have n:=V g.2
 (UE _ _ _ _ (cf (V (V (V f.1).1).1).1) (cf (V (oM f.2 bP)).1) (cf (V (oM f.2 (cn _ bP))).1) (nB n.1) (nB n.2)).imp λv w K X Y h=>by
  refine⟨h.1,?_⟩;have h:=h.2;cases v with
  |av u=>have h:_/\lW (aY cx) cx.ht hc q (.cons (.af i) (.cons (.af j) .nil)) u w K (λO O O=>False) Y:=h;exact D8 h.2 λa b e l r k=>lB a b e l ((o6 ..)▸r) k
  |_=>exact False.elim h
theorem W3 {sc:Scope}(E:dJ c b sc)(scope:Scope)(a:List (Str×Addr))(C:Addr):dJ c (compEnvC scope a C b) (w7 scope sc):=by obtain⟨e,f⟩:=E;subst e;exact⟨rfl,f⟩
theorem W4 {no:Bool}{P:List Expr->Prop}(h:D5 no w b=true)(e:no=true->P [])(k:no=false->∀c,w c=true->P [c]):P b:=by
 cases no with
 |true=>have a:=f6 h;exact B a (e rfl)
 |false=>exact nz (C:=P) (f:=w) h (k rfl)
variable (K:je cx d)
include K
theorem Aq {z p cond:PE}(he:bz d cx g f q z)(H:bz d cx g f q p)(W5:bz d cx g f q cond){sc:Scope}{rs:List (Str×Nat)}(E:dJ g l sc){tn:List (Str×Nat)}{KP G I:Expr}{P:List Expr->Prop}
  (t:oK d sc rs p (bu d sc rs p) G I=true)
  (c:(w8 sc rs scope tn&&bu d (w7 scope sc) (tn++oJ scope rs) z KP&&D5 (cond.iy) (λw=>iF cond&&bu d (w7 scope sc) (tn++oJ scope rs) cond w) u)=true)
  (h0:cond.iy=true->w0=λO Q O Y=>Q true Y) (h1:cond.iy=false->w0=T (aY cx) cx.ht f q cond (W (aY cx) cx.ht f q cond))
  (k:wX l rs (tn++oJ scope rs) scope tn->w8 sc rs scope tn=true->gM cx g l rs f q I G (Wi (aY cx) cx.ht f q p (W (aY cx) cx.ht f q p))->(∀u,(∀b C,wV cx g (compEnvC scope b C l) (tn++oJ scope rs) f q u w0)->(∀b C,Ex cx g (compEnvC scope b C l) (tn++oJ scope rs) f q KP (W (aY cx) cx.ht f q z))->P u)):P u:=
 have J:=V c;have r:=V J.1;have v:=W3 E scope;have kk:=k ((by
    have c6:=V (V r.1).1;have N:=V c6.1;have M:=V N.1;have L:=V M.1;have t:=V L.1;refine⟨cf t.1,λy m=>nB (oM t.2 m),λy m e=>cf (KL (oM L.2 m) e),λy m e=>?_,λx i h=>?_⟩
    ·have a:=V (KL (oM M.2 m) e)
     exact(uF.mp a.1).elim λi H=>aQ i H ((DX a.2).imp E.kind E.kind)
    ·rw[uL] at h
     cases D:tn.lookup x with
     |some j=>rw[D] at h;have h:=bo h;exact B h (.inl ⟨rfl,cf (V (oM N.2 (KJ D))).1⟩)
     |none=>rw[D] at h;have d3:=V (oM c6.2 (KJ (h:(oJ scope rs).lookup x=some i)));have d2:=V d3.1;have d1:=V d2.1;exact .inr (cZ (cf d1.1) (cf d1.2) ((DX d2.2).imp E.kind E.kind) (λy m=>nB (oM d3.2 m) rfl)))) r.1 ((H sc rs l G E).2.2 I t)
 W4 J.2 (λn=>kk [] (λb C=>(h0 n).symm▸(λρ Q X Y A δ s U h=>wpAny_tests_nil (ar.here (R:=RB) U.I rfl h))) λb C=>(he _ _ _ _ (v b C)).1 r.2)
  λn w h=>kk [w] (λb C=>(h1 n).symm▸(λρ Q X Y A δ s U hw=>wpAny_tests_one (((W5 _ _ _ _ (v b C)).2.1 (V h).2 (V h).1) ρ Q X Y A δ s U hw))) λb C=>(he _ _ _ _ (v b C)).1 r.2
omit K in
theorem KQ {cond:PE}:∃i:WB,(cond.iy=true->i=λO Q O Y=>Q true Y)/\(cond.iy=false->i=T (aY cx) cx.ht hc q cond (W (aY cx) cx.ht hc q cond))/\
  ∀f t a b Q X Y,W (aY cx) cx.ht hc q (.c4 f t a cond) b Q X Y->q=false/\Wi (aY cx) cx.ht hc q a (W (aY cx) cx.ht hc q a) b (λitems g Y=>items.length<=aI/\mY (nu (λv=>Wt (aY cx) cx.ht hc q t v) i (W (aY cx) cx.ht hc q f) b X) g items [] Y (λj Y=>j.length<=aI/\bw Y (.list j) Q)) X Y:=by
 cases h:cond.iy with
 |true=>have l:=D6 h;exact B l (gD _ (λO=>rfl) (λz=>Bool.noConfusion z) (λO O O O O O O z=>z))
 |false=>
  refine gD _ (λz=>Bool.noConfusion z) (λO=>rfl) (λf t a b Q X Y z=>?_);have e:∀P c:Prop,(if cond.iy=true then P else c)=c:=λP c=>by refine B h ?_;rfl
  have z:=z;refine⟨z.1,?_⟩;have k:=z.2;simp only[e] at k;exact k
theorem W6 {k f cond:PE}(t:Tg)(J:bz d cx g a q k)(L:bz d cx g a q f)(I:bz d cx g a q cond):bz d cx g a q (.c4 k t f cond):=by
 refine gk (KQ (cx:=cx) (hc:=a) (q:=q) (cond:=cond)) λw0 D G U=>bz.plain K (λO O O O h=>h) (λO O O O h=>h) (λO O O O=>rfl) λsc rs n e E c=>Kw c λw C r b scope l h=>⟨?_,λO O=>rfl⟩;have M:=λx=>Ap (cw (V (V h).1).1) n x;refine KI (C:=λt C=>oK d sc rs f (bu d sc rs f) r C=true->Ex cx g n rs a q (.ListComp w [⟨C,r,b,0⟩] scope l) (W (aY cx) cx.ht a q (.c4 k t f cond))) (V h).2 (λi x p h s=>?_) (λi j x y p N m Q h s=>?_) (V (V h).1).2
 ·refine Aq K J L I E s h D G (P:=λb=>Ex cx g n rs a q (.ListComp w [⟨.Name x p,r,b,0⟩] scope l) (W (aY cx) cx.ht a q (.c4 k (.af i) f cond))) λv u H b z A=>(JL l E.gL v M (KN (hc:=a) u) H z A).imp (U _ _ _)
 ·refine Aq K J L I E s h D G (P:=λb=>Ex cx g n rs a q (.ListComp w [⟨.Tuple [.Name x p,.Name y N] m Q,r,b,0⟩] scope l) (W (aY cx) cx.ht a q (.c4 k (.av (.cons (.af i) (.cons (.af j) .nil))) f cond))) λv u H b z A=>(JL l E.gL v M (KO (hc:=a) u) H z A).imp (U _ _ _)
theorem W7 (D:bz d cx m f q a)(w:bz d cx m f q b)(U:bz d cx m f q s):bz d cx m f q (.range a b s):=λsc rs i e E=>
 (aS (λc=>Bool.noConfusion c) (λc=>Bool.noConfusion c) (λt c=>tI c λx u L p h=>by
  have g:=mj (V h).1;have v:=K.range _ g.1;rcases lU (V h).2 with h|h
  ·rcases lU h with h|h
   ·refine nz h λr h=>?_
    have l:=V h;have j:=V l.1;have k:=V j.1;exact D3 (C:=λa=>gM cx m i rs f q t (.Call (.Name x u) [r] [] p) (Wi (aY cx) cx.ht f q (.range a b s) (W (aY cx) cx.ht f q (.range a b s)))) k.1 (D3 (C:=λs=>gM cx m i rs f q t (.Call (.Name x u) [r] [] p) (Wi (aY cx) cx.ht f q (.range (.ab (.int 0)) b s) (W (aY cx) cx.ht f q (.range (.ab (.int 0)) b s)))) k.2 ((Ui (target:=t) (pos:=p) (np:=u) (E.kind g.2.1) g.2.2 v (by rw[h7 (cw j.2)];rfl) (oB (h7 (cw j.2) _ _) ((w sc rs i _ E).1 l.2) tg)).imp λI G X Y h=>h))
   ·refine tH h λy r h=>?_
    have l:=V h;have j:=V l.1;have k:=V j.1;have n:=V k.1;exact D3 (C:=λs=>gM cx m i rs f q t (.Call (.Name x u) [y,r] [] p) (Wi (aY cx) cx.ht f q (.range a b s) (W (aY cx) cx.ht f q (.range a b s)))) n.1 ((Uj (target:=t) (pos:=p) (np:=u) (E.kind g.2.1) g.2.2 v (by rw[h7 (cw n.2),h7 (cw k.2)];rfl) (oB (h7 (cw n.2) _ _) ((D sc rs i _ E).1 j.2) (oB (h7 (cw k.2) _ _) ((w sc rs i _ E).1 l.2) tg))).imp λI G X Y h=>h)
  ·refine DY h λy r J h=>?_
   have l:=V h;have j:=V l.1;have k:=V j.1;have n:=V k.1;have C:=V n.1;have z:=cw C.1;have A:=cw C.2;have H:=cw n.2;exact Uk (E.kind g.2.1) g.2.2 v (by rw[h7 z,h7 A,h7 H];rfl) (oB (h7 z _ _) ((D sc rs i _ E).1 k.2) (oB (h7 A _ _) ((w sc rs i _ E).1 j.2) (oB (h7 H _ _) ((U sc rs i _ E).1 l.2) tg)))))
theorem W8 (l:bz d cx f i q a):bz d cx f i q (.ja a):=λsc rs b e E=>
 (aS (λc=>Bool.noConfusion c) (λc=>Bool.noConfusion c) (λt c=>tJ (C:=λt=>gM cx f b rs i q t e _) (V c).1 λs n r O=>tI (C:=λe=>gM cx f b rs i q _ e _) (V c).2 λx m u p h=>nz (V h).2 λv k=>
  have g:=mj (V h).1;have j:=cw (V k).1
  Ul (E.kind g.2.1) g.2.2 (K.ja _ g.1) (by rw[h7 j];rfl) (oB (h7 j _ _) ((l sc rs b _ E).1 (V k).2) tg)))
omit K in
theorem KR:jG d cx i l q .nil:=λsc rs g j E c=>by
 have b:=f6 c;subst b;exact gm (λO m=>absurd m List.not_mem_nil) tg (λO k=>λp Q X Y A n s U h=>by
   cases k
   ·exact aU (ar.here (R:=RB) U.I rfl h)
   ·exact aU (ar.here (R:=RB) U.I rfl h)) (λk f=>Bool.noConfusion f) (λa v e=>da.noConfusion e)
omit K in
theorem KS {sc:Scope}{rs:List (Str×Nat)}{C:List Expr->Prop}(h:gz d sc rs (.cons p e) c=true)(k:∀v a,gP v=false->bu d sc rs p v=true->gz d sc rs e a=true->C (v::a)):C c:=by
 cases c with
 |nil=>injection h
 |cons v a=>have b:=V h;exact k v a (cw (V b.1).1) (V b.1).2 b.2
omit K in
theorem KU (C:bz d cx g b q p)(D:jG d cx g b q i):jG d cx g b q (.cons p i):=λsc rs f j E c=>
 KS (C:=λj=>(∀e∈j,gP e=false)/\iQ cx g f rs b q j (Ws (aY cx) cx.ht b q (.cons p i))/\(iF.Ao (.cons p i)=true->∀k,wm cx g f rs b q (iS k) j (Ts (aY cx) cx.ht b q k (.cons p i)))/\
  (∀k,(da.cons p i).has=true->pO cx g f rs b q (iS k) j (Wb (aY cx) cx.ht b q k (.cons p i)))/\∀a v,da.cons p i=.cons a .nil->j=[v]->Ex cx g f rs b q v (W (aY cx) cx.ht b q a)) c λv n x l r=>by
  have s:=D sc rs f n E r;have pp:=C sc rs f v E;refine gm (λe m=>(d4.mp m).elim (λz=>z▸x) (s.1 e)) (oB (h7 x _ _) (pp.1 l) s.2.1) (λt k=>R3 k (pp.2.1 l (V t).1) (s.2.2.1 (V t).2 k)) (λk O=>?_) (λa w e u=>by injection e with e;refine az e ?_;injection u with u;subst u;exact pp.1 l);cases i with
  |nil=>have H:=f6 r;exact B H (R5 k (pp.1 l))
  |cons y A=>exact KS (C:=λn=>pO cx g f rs b q (iS k) n (Wb (aY cx) cx.ht b q k (.cons y A))->pO cx g f rs b q (iS k) (v::n) (Wb (aY cx) cx.ht b q k (.cons p (.cons y A)))) r (λG U O O O h=>R6 k (pp.1 l) h) (s.2.2.2.1 k rfl)
omit K in
theorem W9:xa d cx e f q .nil:=λsc rs b g j E c=>by have a:=f6 (V c).1;refine B a ?_;have a:=f6 (V c).2;exact B a ⟨⟨rfl,rfl⟩,λi l Q X Y A k s U h=>pairTrees_nil_walk (ar.here U.I .nil ⟨rfl,h⟩)⟩
omit K in
theorem Xa (i:bz d cx b e q k)(j:bz d cx b e q v)(h:xa d cx b e q g):xa d cx b e q (.cons k v g):=λsc rs a l p E c=>by
 cases l with
 |nil=>injection c
 |cons f m=>
  cases p with
  |nil=>injection c
  |cons n r=>
   have c:(tM false (bu d sc rs k) f&&bu d sc rs v n&&w9 d sc rs g m r)=true:=c;cases f with
   |none=>injection ((V (V c).1).1)
   |some f=>exact SX ((i sc rs a _ E).1 (V (V c).1).1) ((j sc rs a _ E).1 (V (V c).1).2) (h sc rs a _ _ E (V c).2)
theorem eH (p:PE):bz d cx g i q p:=
 PE.rec (motive_1:=λp=>bz d cx g i q p) (motive_2:=λp=>jG d cx g i q p) (motive_3:=λp=>xa d cx g i q p) (motive_4:=λO=>True) (motive_5:=λO=>True)
  (Wq K) (Wr K) (Wu K) (λO a h=>Wv K a h) (λO O=>Ww K) (λO O O O=>Wx K) WZ (λo O O=>Wy K o) (λO=>Wz K) (λO=>WA K) (λk O=>WC K k) (λo O O=>WD K o) (λo p O O O=>WG K o p) (λO O O=>WH K)
  (λO=>WJ K) (λO=>WK K) (λO=>WN K) (λO t O O a O b c=>W6 K t a b c) (λf O=>WO K f) (λc O=>WQ K c) (λb O=>WX K b) (λO m O=>WU K m) (λO O O=>W7 K) (λO=>W8 K) (λe O=>W0 e) WY
  KR (λO O=>KU) W9 (λO O O=>Xa) (λO=>trivial) (λO O O=>trivial) (λO O O O=>trivial) (λO O=>trivial) trivial (λO O O O=>trivial) p
theorem KV (p:da):jG d cx b hc q p:=
 match p with
 |.nil=>KR
 |.cons p a=>KU (eH K p) (KV a)
end
noncomputable def xb (e:Expr):Bool:=e.ctorIdx==8||e.ctorIdx==9||e.ctorIdx==10
noncomputable def tP (e:Expr):Bool:=e.ctorIdx==25
noncomputable def KW (e:Expr):Bool:=e.ctorIdx==24
noncomputable def D9 (sc s:Scope)(t:Str)(a b:Nat):Bool:=sc.names.lookup t==some .local&&a==b&&!(s.names.any λ(n,k)=>n==t&&(k==.local||k==.cell))
noncomputable def Ea (sc:Scope)(ts vs:List Expr):Option (Option (List Str)):=
 if !(ts.length==2||ts.length==3)||vs.length !=ts.length then some none
 else if(vs.any λx=>PySem.swappedStores.match_5 (λO=>Bool) x (λO O=>true) λO=>false) then some none
 else
  let a:=(ts.head?.map (·.pos.line)).getD 0
  let names:=ts.filterMap λx=>PySem.swappedStores.match_8 (λO=>Option Str) x (λid b=>if sc.names.lookup id==some .local&&b.line==a then some id else none) λO=>none
  if names.length !=ts.length||names.eraseDups.length !=names.length then some none
  else if vs.all (foldedForSure 8) then some none
  else if vs.all (constantsAlone 8) then none
  else some (some names)
theorem KX {a:Env}(h:a.scope.kind=.function):a.blockKind=.function:=by unfold Env.blockKind;refine B h ?_;rfl
theorem Eb (c:xb e=false)(t:Option Expr)(l:Nat):swapsWith e t l a=pure false:=by cases e<;>first|rfl|injection c
theorem Xb {env:Env}(h:env.scope.kind=.function)(l:Nat):swapsWith (.ListComp elt g s p) (some (.Name t pos)) l env=pure (D9 env.scope s t pos.line p.line):=by refine((B (KX h) ?_):(pure (env.blockKind==.function&&env.kindOf t==some .local&&pos.line==p.line&&!(s.names.any λ(n,k)=>n==t&&(k==.local||k==.cell))):Sem Bool)=_);rfl
theorem xc [Decidable c](h:(if c then a else b)=some r)(k:a=some r->x=z)(d:b=some r->y=z):(if c then x else y)=z:=by
 by_cases q:c
 ·rw[aG q] at h⊢;exact k h
 ·rw[aH q] at h⊢;exact d h
theorem xe {a r:b}(e:some a=some r):(pure a:Sem b)=pure r:=by have e:=Option.some.inj e;refine B e ?_;rfl
theorem Xc {env:Env}(h:env.scope.kind=.function){ts vs:List Expr}(c:Ea env.scope ts vs=some r):(do
 if !(ts.length==2||ts.length==3)||vs.length !=ts.length||env.blockKind !=.function then return none
 if vs.any λx=>PySem.swappedStores.match_5 (λO=>Bool) x (λO O=>true) λO=>false then return none
 let a:=(ts.head?.map (·.pos.line)).getD 0
 let names:=ts.filterMap λx=>PySem.swappedStores.match_8 (λO=>Option Str) x (λid b=>if env.kindOf id==some .local&&b.line==a then some id else none) λO=>none
 if names.length !=ts.length||names.eraseDups.length !=names.length then return none
 if vs.all (foldedForSure 8) then return none
 if vs.all (constantsAlone 8) then unsupported "assign.tuple-of-constant-expressions:order-of-the-stores"
 return some names:Sem (Option (List Str)))=pure r:=by
 rw[KX h,bne_self_eq_false,Bool.or_false];exact xc c xe λc=>xc c xe λc=>xc c xe λc=>xc c xe λc=>xc c (λe=>by injection e) xe
theorem KY (c:tP t=false)(a:KW t=false):swappedStores [t] e b=pure none:=by cases t<;>first|rfl|(injection c;done)|(cases a;done)
theorem Xd (c:tP e=false):swappedStores [.Tuple b n p] e a=pure none:=by cases e<;>first|rfl|injection c
noncomputable def KZ (s:Stmt):Option {y:Option Expr×Pos//s=.Return y.1 y.2}:=if h:s.ctorIdx=3 then Stmt.Return.elim (motive_2:=λs=>Option {y:Option Expr×Pos//s=.Return y.1 y.2}) s h λa b=>some ⟨(a,b),rfl⟩ else none
noncomputable def K1 (s:Stmt):Option {y:List Expr×Expr×Pos//s=.Assign y.1 y.2.1 y.2.2}:=if h:s.ctorIdx=5 then Stmt.Assign.elim (motive_2:=λs=>Option {y:List Expr×Expr×Pos//s=.Assign y.1 y.2.1 y.2.2}) s h λa b c=>some ⟨(a,b,c),rfl⟩ else none
noncomputable def K3 (s:Stmt):Option {y:Expr×Operator×Expr×Pos//s=.AugAssign y.1 y.2.1 y.2.2.1 y.2.2.2}:=if h:s.ctorIdx=7 then Stmt.AugAssign.elim (motive_2:=λs=>Option {y:Expr×Operator×Expr×Pos//s=.AugAssign y.1 y.2.1 y.2.2.1 y.2.2.2}) s h λa b c d=>some ⟨(a,b,c,d),rfl⟩ else none
noncomputable def K4 (s:Stmt):Option {y:Expr×Expr×List Stmt×List Stmt×Pos//s=.For y.1 y.2.1 y.2.2.1 y.2.2.2.1 y.2.2.2.2}:=if h:s.ctorIdx=9 then Stmt.For.elim (motive_2:=λs=>Option {y:Expr×Expr×List Stmt×List Stmt×Pos//s=.For y.1 y.2.1 y.2.2.1 y.2.2.2.1 y.2.2.2.2}) s h λa b c d e=>some ⟨(a,b,c,d,e),rfl⟩ else none
noncomputable def K5 (s:Stmt):Option {y:Expr×List Stmt×List Stmt×Pos//s=.While y.1 y.2.1 y.2.2.1 y.2.2.2}:=if h:s.ctorIdx=11 then Stmt.While.elim (motive_2:=λs=>Option {y:Expr×List Stmt×List Stmt×Pos//s=.While y.1 y.2.1 y.2.2.1 y.2.2.2}) s h λa b c d=>some ⟨(a,b,c,d),rfl⟩ else none
noncomputable def K6 (s:Stmt):Option {y:Expr×List Stmt×List Stmt×Pos//s=.If y.1 y.2.1 y.2.2.1 y.2.2.2}:=if h:s.ctorIdx=12 then Stmt.If.elim (motive_2:=λs=>Option {y:Expr×List Stmt×List Stmt×Pos//s=.If y.1 y.2.1 y.2.2.1 y.2.2.2}) s h λa b c d=>some ⟨(a,b,c,d),rfl⟩ else none
noncomputable def K7 (s:Stmt):Option {y:Option Expr×Option Expr×Pos//s=.Raise y.1 y.2.1 y.2.2}:=if h:s.ctorIdx=16 then Stmt.Raise.elim (motive_2:=λs=>Option {y:Option Expr×Option Expr×Pos//s=.Raise y.1 y.2.1 y.2.2}) s h λa b c=>some ⟨(a,b,c),rfl⟩ else none
noncomputable def Ar (s:Stmt):Option {y:List Stmt×List ExceptHandler×List Stmt×List Stmt×Pos//s=.Try y.1 y.2.1 y.2.2.1 y.2.2.2.1 y.2.2.2.2}:=if h:s.ctorIdx=17 then Stmt.Try.elim (motive_2:=λs=>Option {y:List Stmt×List ExceptHandler×List Stmt×List Stmt×Pos//s=.Try y.1 y.2.1 y.2.2.1 y.2.2.2.1 y.2.2.2.2}) s h λa b c d e=>some ⟨(a,b,c,d,e),rfl⟩ else none
noncomputable def K8 (s:Stmt):Option {y:Expr×Pos//s=.Expr y.1 y.2}:=if h:s.ctorIdx=24 then Stmt.Expr.elim (motive_2:=λs=>Option {y:Expr×Pos//s=.Expr y.1 y.2}) s h λa b=>some ⟨(a,b),rfl⟩ else none
noncomputable def Ec (s:Stmt):Option {y:Pos//s=.Pass y}:=if h:s.ctorIdx=25 then Stmt.Pass.elim (motive_2:=λs=>Option {y:Pos//s=.Pass y}) s h λa=>some ⟨a,rfl⟩ else none
def Ed (f:Option Expr->Bool) (s:Stmt):Bool:=(KZ s).any λy=>f y.1.1
@[elab_as_elim] theorem Xe {C:Stmt->Prop} (h:Ed f s=true) (k:∀a p,f a=true->C (.Return a p)):C s:=dy (o:=KZ s) (f:=λy=>f y.1) h λy=>k y.1 y.2
def As (f:Expr->Expr->Bool) (s:Stmt):Bool:=(K1 s).any λy=>k1 (λt=>f t y.1.2.1) y.1.1
@[elab_as_elim] theorem K9 {C:Stmt->Prop} (h:As f s=true) (k:∀t e p,f t e=true->C (.Assign [t] e p)):C s:=
 dy (o:=K1 s) (f:=λy=>k1 (λt=>f t y.2.1) y.1) h λy h=>nz (C:=λl=>C (.Assign l y.2.1 y.2.2)) h λt=>k t y.2.1 y.2.2
def rg (a:Operator) (f:Expr->Expr->Bool) (s:Stmt):Bool:=(K3 s).any λy=>decide (y.1.2.1=a)&&f y.1.1 y.1.2.2.1
@[elab_as_elim] theorem Ee {C:Stmt->Prop} (h:rg a f s=true) (k:∀t e p,f t e=true->C (.AugAssign t a e p)):C s:=
 dy (o:=K3 s) (f:=λy=>decide (y.2.1=a)&&f y.1 y.2.2.1) h λ⟨t,o,e,p⟩ h=>by have q:o=a:=cf (V h).1;exact B q (k t e p (V h).2)
def Au (f:Expr->Expr->List Stmt->Bool) (s:Stmt):Bool:=(K4 s).any λy=>kN y.1.2.2.2.1&&f y.1.1 y.1.2.1 y.1.2.2.1
@[elab_as_elim] theorem La {C:Stmt->Prop} (h:Au f s=true) (k:∀t e b p,f t e b=true->C (.For t e b [] p)):C s:=
 dy (o:=K4 s) (f:=λy=>kN y.2.2.2.1&&f y.1 y.2.1 y.2.2.1) h λ⟨t,e,b,o,p⟩ h=>by have q:=f6 (V h).1;exact B q (k t e b p (V h).2)
def Ef (f:Expr->List Stmt->Bool) (s:Stmt):Bool:=(K5 s).any λy=>kN y.1.2.2.1&&f y.1.1 y.1.2.1
@[elab_as_elim] theorem Xf {C:Stmt->Prop} (h:Ef f s=true) (k:∀t b p,f t b=true->C (.While t b [] p)):C s:=
 dy (o:=K5 s) (f:=λy=>kN y.2.2.1&&f y.1 y.2.1) h λ⟨t,b,o,p⟩ h=>by have q:=f6 (V h).1;exact B q (k t b p (V h).2)
def Eg (f:Expr->List Stmt->List Stmt->Bool) (s:Stmt):Bool:=(K6 s).any λy=>f y.1.1 y.1.2.1 y.1.2.2.1
@[elab_as_elim] theorem Xg {C:Stmt->Prop} (h:Eg f s=true) (k:∀t a b p,f t a b=true->C (.If t a b p)):C s:=dy (o:=K6 s) (f:=λy=>f y.1 y.2.1 y.2.2.1) h λy=>k y.1 y.2.1 y.2.2.1 y.2.2.2
noncomputable def kb (no:Bool)(f:a->Bool)(o:Option a):Bool:=match o with|some e=>f e|none=>no
@[elab_as_elim] theorem tQ {no:Bool} {C:Option b->Prop} (h:kb no f o=true) (a:no=true->C none) (k:∀e,f e=true->C (some e)):C o:=by
 cases o with
 |none=>exact a h
 |some e=>exact k e h
def Eh (f:Str->List Expr->Bool) (s:Stmt):Bool:=(K7 s).any λy=>kb true (λO=>false) y.1.2.1&&kb false (pV f) y.1.1
@[elab_as_elim] theorem Xh {C:Stmt->Prop} (h:Eh f s=true) (k:∀x g c d p,f x c=true->C (.Raise (some (.Call (.Name x g) c [] d)) none p)):C s:=
 dy (o:=K7 s) (f:=λy=>kb true (λO=>false) y.2.1&&kb false (pV f) y.1) h λy h=>tQ (C:=λb=>C (.Raise y.1 b y.2.2)) (V h).1 (λO=>tQ (C:=λa=>C (.Raise a none y.2.2)) (V h).2 (λz=>Bool.noConfusion z) λe h=>tI (C:=λe=>C (.Raise (some e) none y.2.2)) h λx g c d=>k x g c d y.2.2) λO z=>Bool.noConfusion z
noncomputable def kC (f:List b->Bool)(l:List b):Bool:=match l with|[]=>false|a::r=>f (a::r)
@[elab_as_elim] theorem xf {C:List b->Prop} (h:kC f l=true) (k:∀a r,f (a::r)=true->C (a::r)):C l:=by
 cases l with
 |nil=>injection h
 |cons a r=>exact k a r h
def Ei (f:List Stmt->List ExceptHandler->Bool) (s:Stmt):Bool:=(Ar s).any λy=>kN y.1.2.2.1&&(kN y.1.2.2.2.1&&kC (f y.1.1) y.1.2.1)
@[elab_as_elim] theorem Xi {C:Stmt->Prop} (h:Ei f s=true) (k:∀b d c p,f b (d::c)=true->C (.Try b (d::c) [] [] p)):C s:=
 dy (o:=Ar s) (f:=λy=>kN y.2.2.1&&(kN y.2.2.2.1&&kC (f y.1) y.2.1)) h λ⟨b,c,x,y,p⟩ h=>by have q:=f6 (V h).1;have e:=f6 (V (V h).2).1;exact B q (B e (xf (C:=λc=>C (.Try b c [] [] p)) (V (V h).2).2 λa r=>k b a r p))
def Ej (f:List Stmt->List Stmt->Bool) (s:Stmt):Bool:=(Ar s).any λy=>kN y.1.2.1&&(kN y.1.2.2.1&&kC (f y.1.1) y.1.2.2.2.1)
@[elab_as_elim] theorem Xj {C:Stmt->Prop} (h:Ej f s=true) (k:∀b d c p,f b (d::c)=true->C (.Try b [] [] (d::c) p)):C s:=
 dy (o:=Ar s) (f:=λy=>kN y.2.1&&(kN y.2.2.1&&kC (f y.1) y.2.2.2.1)) h λ⟨b,g,x,y,p⟩ h=>by have q:=f6 (V h).1;have e:=f6 (V (V h).2).1;exact B q (B e (xf (C:=λy=>C (.Try b [] [] y p)) (V (V h).2).2 λa r=>k b a r p))
def Ek (f:Expr->Bool) (s:Stmt):Bool:=(K8 s).any λy=>f y.1.1
@[elab_as_elim] theorem Xk {C:Stmt->Prop} (h:Ek f s=true) (k:∀a p,f a=true->C (.Expr a p)):C s:=dy (o:=K8 s) (f:=λy=>f y.1) h λy=>k y.1 y.2
def Lb (f:Str->Option Str->List Stmt->Bool):ExceptHandler->Bool
 |.ExceptHandler t a b _=>kb false (eQ λx=>kC (f x a) b) t
@[elab_as_elim] theorem Xl {C:ExceptHandler->Prop} (h:Lb f t=true) (k:∀x d a c b p,f x a (c::b)=true->C (.ExceptHandler (some (.Name x d)) a (c::b) p)):C t:=by
 cases t with
 |ExceptHandler t a b p=>exact tQ (C:=λt=>C (.ExceptHandler t a b p)) h (λz=>Bool.noConfusion z) λe h=>gO (C:=λe=>C (.ExceptHandler (some e) a b p)) h λx d h=>xf (C:=λb=>C (.ExceptHandler _ a b p)) h λc b=>k x d a c b p
section
variable (l:List (Str×GV))
noncomputable def lc (sc:Scope)(x:Str):Bool:=decide (sc.names.lookup x=some .local)||decide (sc.names.lookup x=some .cell)
mutual
noncomputable def k8 (sc:Scope)(rs:List (Str×Nat)):Tg->Expr->Bool
 |.af i,t=>eQ (λx=>decide (rs.lookup x=some i)&&lc sc x) t
 |.aj o a,t=>pW a.str (λv O=>bu l sc rs o v) t
 |.item o k,t=>q9 (λv i=>!tK i&&bu l sc rs o v&&bu l sc rs k i) t
 |.av b,t=>pX (Av sc rs b) t
noncomputable def Av (sc:Scope)(rs:List (Str×Nat)):fK->List Expr->Bool
 |.nil,a=>kN a
 |.cons t b,a=>(match a with|v::a=>!gP v&&k8 sc rs t v&&Av sc rs b a|[]=>false)
end
noncomputable def k9 (sc:Scope)(rs:List (Str×Nat))(x:Str)(i:Nat):Bool:=decide (rs.lookup x=some i)&&decide (sc.names.lookup x=some .local)
def Lc (f:Str->Nat->Bool) (e:Expr):Bool:=(Ah e).any λy=>f y.1.1 y.1.2.line
@[elab_as_elim] theorem Xm {C:Expr->Prop} (h:Lc f e=true) (k:∀x p,f x p.line=true->C (.Name x p)):C e:=dy (o:=Ah e) (f:=λy=>f y.1 y.2.line) h λy=>k y.1 y.2
def Ld (f:Scope->Nat->Bool) (e:Expr):Bool:=(Aj e).any λy=>f y.1.2.2.1 y.1.2.2.2.line
@[elab_as_elim] theorem Xn {C:Expr->Prop} (h:Ld f e=true) (k:∀a g s p,f s p.line=true->C (.ListComp a g s p)):C e:=dy (o:=Aj e) (f:=λy=>f y.2.2.1 y.2.2.2.line) h λy=>k y.1 y.2.1 y.2.2.1 y.2.2.2
noncomputable def Le (e:PE):Option {y:PE×Tg×PE×PE//e=.c4 y.1 y.2.1 y.2.2.1 y.2.2.2}:=match e with|.c4 a t b c=>some ⟨(a,t,b,c),rfl⟩|_=>none
def Lf (e:PE):Bool:=(Le e).isSome
def Lg (sc:Scope) (rs:List (Str×Nat)) (t:Tg) (e:PE) (a b:Expr):Bool:=
 Lc (λx c=>Ld (λs d=>if D9 sc s x c d then Lf e&&ka (λi=>decide (rs.lookup x=some i)&&lc sc x) t else k8 l sc rs t a) b) a
def Lh (sc:Scope) (rs:List (Str×Nat)) (t:Tg) (e:PE) (f g:Expr):Bool:=
 pX (λd=>pX (λh=>kb false (λo=>kb (k8 l sc rs t f) (λns=>
  D4 (λi j=>k2 (λa b=>eQ (λx=>eQ (λy=>decide (ns=[x,y])&&(k9 sc rs x i&&k9 sc rs y j)&&!(i==j)) b) a) d) t||
  KG (λi j m=>k3 (λa b c=>eQ (λx=>eQ (λy=>eQ (λu=>decide (ns=[x,y,u])&&(k9 sc rs x i&&k9 sc rs y j&&k9 sc rs u m)&&(!(i==j)&&!(i==m)&&!(j==m))) c) b) a) d) t) o) (Ea sc d h)) g) f
def El (sc:Scope) (rs:List (Str×Nat)) (t:Tg) (e:PE) (a b:Expr):Bool:=
 !gP a&&bu l sc rs e b&&(if xb b then Lg l sc rs t e a b else if tP a then(if tP b then Lh l sc rs t e a b else k8 l sc rs t a) else !KW a&&k8 l sc rs t a)
mutual
noncomputable def jf (sc:Scope)(rs:List (Str×Nat)):PS->Stmt->Bool
 |.assign t e,s=>As (El l sc rs t e) s
 |.CA i o e,s=>rg o.op (λt g=>eQ (λx=>decide (rs.lookup x=some i)&&lc sc x) t&&bu l sc rs e g) s
 |.CB b a o e,s=>rg o.op (λt g=>pW a.str (λv O=>bu l sc rs b v) t&&bu l sc rs e g) s
 |.y5 b k o e,s=>rg o.op (λt g=>q9 (λv i=>!tK i&&bu l sc rs b v&&bu l sc rs k i) t&&bu l sc rs e g) s
 |.expr e,s=>Ek (λg=>!xb g&&bu l sc rs e g) s
 |.ret e,s=>Ed (λo=>kb (e.iy) (bu l sc rs e) o) s
 |.a7 c a b,s=>Eg (λh p d=>iF c&&bu l sc rs c h&&f7 sc rs a p&&f7 sc rs b d) s
 |.cP t j b,s=>Au (λn m d=>!tL m&&k8 l sc rs t n&&oK l sc rs j (bu l sc rs j) m n&&f7 sc rs b d) s
 |.vM c b,s=>Ef (λh d=>iF c&&bu l sc rs c h&&f7 sc rs b d) s
 |.qH b u,s=>Ei (λd w=>f7 sc rs b d&&Aw sc rs u w) s
 |.sL b f,s=>Ej (λd r=>f7 sc rs b d&&f7 sc rs f r) s
 |.dw c es,s=>Eh (λx q=>c.hP&&fP l sc x (.cl c)&&gz l sc rs es q&&(!es.has||es.a8)) s
 |.CD,s=>(Ec s).any λO=>true
 |.pA,_=>true
noncomputable def f7 (sc:Scope)(rs:List (Str×Nat)):cS->List Stmt->Bool
 |.nil,a=>kN a
 |.cons s r,a=>(match a with|t::a=>jf sc rs s t&&f7 sc rs r a|[]=>false)
noncomputable def Aw (sc:Scope)(rs:List (Str×Nat)):vN->List ExceptHandler->Bool
 |.nil,a=>kN a
 |.cons d v b r,a=>(match a with
   |t::e=>Lb (λx c f=>d.hP&&!decide (d=.pf)&&fP l sc x (.cl d)&&kb (kb true (λO=>false) c) (λi=>kb false (λn=>k9 sc rs n i) c) v&&f7 sc rs b f) t&&Aw sc rs r e
   |[]=>false)
end
end
theorem Ex.post {rs:List (Str×Nat)}(h:Ex b d c rs i q e w):Ex b d c rs i q e (λa Q X Y=>∃F:PV->AH->Prop,(∀v Y,F v Y->Q v Y)/\w a F X Y):=λa Q X Y A l s U z=>by refine ai z λF k z=>bM (h a F X Y A l s U z) (λv t x=>?_) λO O x=>x;obtain⟨p,n,m,f,j,e1,g,r,z⟩:=x;exact⟨p,n,m,f,j,e1,g,r,k _ _ z⟩
theorem Sx.imp {rs:List (Str×Nat)}(h:Sx b d c rs e q t w)(k:∀a Q X Y,f a Q X Y->w a Q X Y):Sx b d c rs e q t f:=λa Q X Y A g s U z=>h a Q X Y A g s U (k a Q X Y z)
theorem fy.imp {rs:List (Str×Nat)}(h:fy b d c rs e q t w)(k:∀a Q X Y,f a Q X Y->w a Q X Y):fy b d c rs e q t f:=λa Q X Y A g s U z=>h a Q X Y A g s U (k a Q X Y z)
theorem jE.imp {rs:List (Str×Nat)}(h:jE b d c rs e q t w)(k:∀v a K X Y,f v a K X Y->w v a K X Y):jE b d c rs e q t f:=λv p a K X Y A g s U r z=>h v p a K X Y A g s U r (k _ _ _ _ _ z)
theorem Em (h:gP e=false):∀x p,e≠.Starred x p:=λx p z=>by rw[z] at h;injection h
theorem Li (h:tK e=false):∀l u t p,e≠.Slice l u t p:=λl u t p z=>by rw[z] at h;injection h
section
variable (K:je f g){sc:Scope}{rs:List (Str×Nat)}
theorem En (E:dJ b a sc)(h:lc sc x=true):a.kindOf x=some .local∨a.kindOf x=some .cell:=(DX h).imp E.kind E.kind
theorem rh (E:dJ b a sc)(h:k9 sc rs x i=true):rs.lookup x=some i/\a.kindOf x=some .local:=⟨of_decide_eq_true (V h).1,E.kind (of_decide_eq_true (V h).2)⟩
include K
def Eo (f:Cx) (g:List (Str×GV)) (d:List Env) (a:Nat) (c:Env) (sc:Scope) (rs:List (Str×Nat)) (q:Bool) (t:Tg):Prop:=∀b:Expr,k8 g sc rs t b=true->jE f d c rs a q b (Wt (aY f) f.ht a q t)
def Ax (f:Cx) (g:List (Str×GV)) (e:List Env) (c:Nat) (d:Env) (sc:Scope) (rs:List (Str×Nat)) (q:Bool) (b:fK):Prop:=∀a:List Expr,Av g sc rs b a=true->a.length=b.len/\(∀t∈a,gP t=false)/\wG f e d rs c q a (lW (aY f) f.ht c q b)
theorem Xo (l:Eo f g i j h sc rs q t)(n:Ax f g i j h sc rs q w):Ax f g i j h sc rs q (.cons t w):=λd c=>by
 cases d with
 |nil=>injection c
 |cons v d=>
  have e:=V c;have b:=V e.1;have s:=n d e.2;refine aS (br (·+1) s.1) (λt m=>(d4.mp m).elim (λz=>z▸cw b.1) (s.2.1 t)) (λx a H k Y A y u X U r z=>Tc (Em (cw b.1)) (l v b.2) s.2.2 x a H k Y A y u X U r ?_);cases a with
  |nil=>exact False.elim z
  |cons p a=>exact gE p a rfl z
theorem Xp:Ax f g l n k sc rs q .nil:=λb c=>by
 have e:=f6 c;refine B e ⟨rfl,λO m=>absurd m List.not_mem_nil,λb a j d Y A i s X U r h=>Tb b a j d Y A i s X U r ?_⟩;cases a with
 |nil=>exact⟨rfl,h⟩
 |cons O O=>exact False.elim h
theorem xg (E:dJ e b sc)(st:df f e b rs)(q:Bool)(t:Tg):Eo f g e hc b sc rs q t:=
 Tg.rec (motive_1:=λO=>True) (motive_2:=λO=>True) (motive_3:=λO=>True) (motive_4:=λt=>Eo f g e hc b sc rs q t) (motive_5:=λt=>Ax f g e hc b sc rs q t)
  (λO=>trivial) (λO=>trivial) (λO=>trivial) (λO O O=>trivial) (λO O O O=>trivial) (λO O O O O O O O=>trivial) trivial (λO O O O O=>trivial) (λO O=>trivial) (λO O=>trivial) (λO O O=>trivial) (λO O O O O=>trivial) (λO O O O O O O O=>trivial) (λO O O O O O=>trivial)
  (λO O=>trivial) (λO O=>trivial) (λO O=>trivial) (λO O O O O O O O=>trivial) (λO O O=>trivial) (λO O O=>trivial) (λO O O=>trivial) (λO O O O O=>trivial) (λO O O O O O=>trivial) (λO O=>trivial) (λO O=>trivial) trivial
  trivial (λO O O O=>trivial) trivial (λO O O O O O=>trivial)
  (λi d c=>gO (show eQ (λx=>decide (rs.lookup x=some i)&&lc sc x) d=true from c) λx p h=>S7 st _ (cf (V h).1) (En E (V h).2))
  (λo a O d c=>w5 (show pW a.str (λv O=>bu g sc rs o v) d=true from c) λv p h=>S8 K.ok K.ck a _ ((eH K o sc rs b _ E).1 h))
  (λo k O O d c=>Ak (show q9 (λv i=>!tK i&&bu g sc rs o v&&bu g sc rs k i) d=true from c) λv i p h=>S9 K.ok _ (Li (cw (V (V h).1).1)) ((eH K o sc rs b _ E).1 (V (V h).1).2) ((eH K k sc rs b _ E).1 (V h).2))
  (λr j d c=>tJ (c:pX (Av g sc rs r) d=true) λl n p h=>(Td _ _ (λt m=>Em ((j l h).2.1 t m)) (j l h).2.2).imp λv u s X Y z=>(j l h).1▸z)
  (Xp K) (λO O=>Xo K) t
omit K in
theorem Xq {K:aP->AH->Prop}{P:Prop}(h:lW C p n q (.cons (.af i) (.cons (.af j) (.cons (.af m) .nil))) l c K X Y)
  (k:∀a b d,l=[a,b,d]->K (((c.set i (some a)).set j (some b)).set m (some d)) Y->P):P:=by
 cases l with
 |nil=>exact False.elim h
 |cons a r=>exact Xr (h:i<c.length/\lW C p n q (.cons (.af j) (.cons (.af m) .nil)) r (c.set i (some a)) K X Y).2 λb d e z=>k a b d (e▸rfl) z
where
 Xr {C:jX} {p:Fn->Nat} {n:Nat} {q:Bool} {i j:Nat} {l:List PV} {c:aP} {K:aP->AH->Prop} {X:XP} {Y:AH} {P:Prop} (h:lW C p n q (.cons (.af i) (.cons (.af j) .nil)) l c K X Y)
  (k:∀a b,l=[a,b]->K ((c.set i (some a)).set j (some b)) Y->P):P:=D8 h λa b e O O z=>k a b e z
theorem Xs (E:dJ l c sc)(st:df f l c rs)(w:bu g sc rs e d=true)(H:swapsWith d (some (.Tuple [.Name x s,.Name y t] k u)) D.line c=pure false)(C:swappedStores [.Tuple [.Name x s,.Name y t] k u] d c=pure (some [x,y]))
  (n:(k9 sc rs x i&&k9 sc rs y j)=true) (A:(!(i==j))=true):Sx f l c rs m q (.Assign [.Tuple [.Name x s,.Name y t] k u] d D) (S (aY f) f.ht m q (.assign (.av (.cons (.af i) (.cons (.af j) .nil))) e)):=
 have p:=rh E (V n).1;have r:=rh E (V n).2
 (Tn st H C p.1 r.1 p.2 r.2 (nB A) ((eH K e sc rs c _ E).1 w).post).imp λU Q X Y h=>aQ _ (λv Y z=>by
  refine⟨z.1,?_⟩;have z:=z.2;cases v with
  |av G=>have z:_/\lW (aY f) f.ht m q (.cons (.af i) (.cons (.af j) .nil)) G U _ (λO O O=>False) Y:=z;exact D8 z.2 λa b e O O z=>gE a b (br PV.av e) z
  |_=>exact False.elim z) h
theorem Xu (E:dJ r c sc)(st:df f r c rs)(U:bu g sc rs e l=true)(I:swapsWith l (some (.Tuple [.Name x H,.Name y C,.Name u D] k G)) L.line c=pure false)(J:swappedStores [.Tuple [.Name x H,.Name y C,.Name u D] k G] l c=pure (some [x,y,u]))
  (n:(k9 sc rs x i&&k9 sc rs y j&&k9 sc rs u m)=true) (p:(!(i==j)&&!(i==m)&&!(j==m))=true):Sx f r c rs s q (.Assign [.Tuple [.Name x H,.Name y C,.Name u D] k G] l L) (S (aY f) f.ht s q (.assign (.av (.cons (.af i) (.cons (.af j) (.cons (.af m) .nil)))) e)):=
 have w:=rh E (V (V n).1).1;have A:=rh E (V (V n).1).2;have t:=rh E (V n).2
 (Tp st I J w.1 A.1 t.1 w.2 A.2 t.2 (nB (V (V p).1).1) (nB (V (V p).1).2) (nB (V p).2) ((eH K e sc rs c _ E).1 U).post).imp λN Q X Y h=>aQ _ (λv Y z=>by
  refine⟨z.1,?_⟩;have z:=z.2;cases v with
  |av M=>have z:_/\lW (aY f) f.ht s q (.cons (.af i) (.cons (.af j) (.cons (.af m) .nil))) M N _ (λO O O=>False) Y:=z;exact Xq z.2 λa b d e z=>js a b d (br PV.av e) z
  |_=>exact False.elim z) h
theorem Xv (E:dJ w a sc)(st:df f w a rs){e d cond:PE}(c:bu g sc rs (.c4 e t d cond) A=true)(r:swapsWith A (some (.Name x l)) n.line a=pure true)
  (hx:rs.lookup x=some i) (Ad:a.kindOf x=some .local∨a.kindOf x=some .cell):Sx f w a rs b q (.Assign [.Name x l] A n) (S (aY f) f.ht b q (.assign (.af i) (.c4 e t d cond))):=by
 refine gk (KQ (cx:=f) (hc:=b) (q:=q) (cond:=cond)) λw0 a0 a1 a2=>Kw (C:=λA=>swapsWith A (some (.Name x l)) n.line a=pure true->Sx f w a rs b q (.Assign [.Name x l] A n) (S (aY f) f.ht b q (.assign (.af i) (.c4 e t d cond)))) c (λv D s k scope u h r=>?_) r;have hs:=λx=>Ap (cw (V (V h).1).1) a x;refine KI (C:=λt D=>oK g sc rs d (bu g sc rs d) s D=true->swapsWith (.ListComp v [⟨D,s,k,0⟩] scope u) (some (.Name x l)) n.line a=pure true->Sx f w a rs b q (.Assign [.Name x l] (.ListComp v [⟨D,s,k,0⟩] scope u) n) (S (aY f) f.ht b q (.assign (.af i) (.c4 e t d cond)))) (V h).2 (λH C p h G=>?_) (λH j C y p p' m p2 h G=>?_) (V (V h).1).2 r
 ·exact Aq K (eH K e) (eH K d) (eH K cond) E G h a0 a1 (P:=λk=>swapsWith (.ListComp v [⟨.Name C p,s,k,0⟩] scope u) (some (.Name x l)) n.line a=pure true->Sx f w a rs b q (.Assign [.Name x l] (.ListComp v [⟨.Name C p,s,k,0⟩] scope u) n) (S (aY f) f.ht b q (.assign (.af i) (.c4 e (.af H) d cond))))
   λI U M k J L r=>(JM st _ _ _ r hx Ad I hs (KN (hc:=b) U) M J L).imp λN Q X Y z=>a2 e (.af H) d N _ _ Y z
 ·exact Aq K (eH K e) (eH K d) (eH K cond) E G h a0 a1 (P:=λk=>swapsWith (.ListComp v [⟨.Tuple [.Name C p,.Name y p'] m p2,s,k,0⟩] scope u) (some (.Name x l)) n.line a=pure true->Sx f w a rs b q (.Assign [.Name x l] (.ListComp v [⟨.Tuple [.Name C p,.Name y p'] m p2,s,k,0⟩] scope u) n) (S (aY f) f.ht b q (.assign (.af i) (.c4 e (.av (.cons (.af H) (.cons (.af j) .nil))) d cond))))
   λI U M k J L r=>(JM st _ _ _ r hx Ad I hs (KO (hc:=b) U) M J L).imp λN Q X Y z=>a2 e (.av (.cons (.af H) (.cons (.af j) .nil))) d N _ _ Y z
end
section
variable (K:je l w){sc:Scope}{rs:List (Str×Nat)}
def Ep (l:Cx) (w:List (Str×GV)) (c:List Env) (a:Nat) (b:Env) (sc:Scope) (rs:List (Str×Nat)) (p:PS):Prop:=∀(q:Bool) (t:Stmt),jf w sc rs p t=true->Sx l c b rs a q t (S (aY l) l.ht a q p)
def xh (l:Cx) (w:List (Str×GV)) (c:List Env) (a:Nat) (b:Env) (sc:Scope) (rs:List (Str×Nat)) (p:cS):Prop:=∀(q:Bool) (t:List Stmt),f7 w sc rs p t=true->fy l c b rs a q t (Ss (aY l) l.ht a q p)
def Er (l:Cx) (w:List (Str×GV)) (d:List Env) (a:Nat) (b:Env) (sc:Scope) (rs:List (Str×Nat)) (p:vN):Prop:=∀t:List ExceptHandler,Aw w sc rs p t=true->pU l d b rs a t (λc t=>Sh (aY l) l.ht a c t p)
theorem Xw {C:PE->Prop}(h:Lf e=true)(k:∀a t b c,C (.c4 a t b c)):C e:=((Le e).get h).2▸k _ _ _ _
section
include K
theorem Xx (E:dJ k f sc)(st:df l k f rs)(G:f.scope.kind=.function)(q:Bool)(t:Tg)(e:PE)(r m:Expr)(pos:Pos)(U:gP r=false)(c:bu w sc rs e m=true)(C:Lg w sc rs t e r m=true):Sx l k f rs j q (.Assign [r] m pos) (S (aY l) l.ht j q (.assign t e)):=by
 obtain⟨rfl,H⟩:=E;have E:dJ k f f.scope:=⟨rfl,H⟩;refine Xm (C:=λA=>(k8 w f.scope rs t r=true->jE l k f rs j q A (Wt (aY l) l.ht j q t))->Sx l k f rs j q (.Assign [A] m pos) (S (aY l) l.ht j q (.assign t e))) C (λx p h D=>Xn (C:=λm=>bu w f.scope rs e m=true->Sx l k f rs j q (.Assign [.Name x p] m pos) (S (aY l) l.ht j q (.assign t e))) h (λelt g s v h c=>?_) c) (xg K E st q t r);have u:=Xb (env:=f) G (elt:=elt) (g:=g) (s:=s) (p:=v) (t:=x) (pos:=p) pos.line;by_cases n:D9 f.scope s x p.line v.line=true
 ·rw[aG n] at h
  rw[n] at u;exact rf (C:=λt=>Sx l k f rs j q (.Assign [.Name x p] _ pos) (S (aY l) l.ht j q (.assign t e))) (V h).2 λi y=>Xw (C:=λe=>bu w f.scope rs e (.ListComp elt g s v)=true->Sx l k f rs j q (.Assign [.Name x p] (.ListComp elt g s v) pos) (S (aY l) l.ht j q (.assign (.af i) e))) (V h).1 (λa t b d c=>Xv K E st c u (cf (V y).1) (En E (V y).2)) c
 ·rw[aH n] at h
  rw[uR] at n;rw[n] at u;exact Dm pos (λO O z=>by injection z) u (KY rfl rfl) (D h) ((eH K e _ rs f _ E).1 c)
theorem Xy (E:dJ G f sc)(st:df l G f rs)(hk:f.scope.kind=.function)(q:Bool)(t:Tg)(e:PE)(J I:Expr)(H:Pos)(c:bu w sc rs e I=true)(Q:Lh w sc rs t e J I=true):Sx l G f rs v q (.Assign [J] I H) (S (aY l) l.ht v q (.assign t e)):=by
 obtain⟨rfl,N⟩:=E;have E:dJ G f f.scope:=⟨rfl,N⟩;refine tJ (C:=λM=>(k8 w f.scope rs t J=true->jE l G f rs v q M (Wt (aY l) l.ht v q t))->Sx l G f rs v q (.Assign [M] I H) (S (aY l) l.ht v q (.assign t e))) Q (λD k g h hT=>tJ (C:=λI=>bu w f.scope rs e I=true->Sx l G f rs v q (.Assign [.Tuple D k g] I H) (S (aY l) l.ht v q (.assign t e))) h (λn p s h c=>?_) c) (xg K E st q t J);have C:swapsWith (.Tuple n p s) (some (.Tuple D k g)) H.line f=pure false:=Eb rfl _ _;have A:∀r,Ea f.scope D n=some r->swappedStores [.Tuple D k g] (.Tuple n p s) f=pure r:=λr z=>Xc hk z;refine tQ (C:=λo=>(∀r,o=some r->swappedStores [.Tuple D k g] (.Tuple n p s) f=pure r)->Sx l G f rs v q (.Assign [.Tuple D k g] (.Tuple n p s) H) (S (aY l) l.ht v q (.assign t e))) h (λz=>Bool.noConfusion z) (λo h A=>tQ (C:=λo=>swappedStores [.Tuple D k g] (.Tuple n p s) f=pure o->Sx l G f rs v q (.Assign [.Tuple D k g] (.Tuple n p s) H) (S (aY l) l.ht v q (.assign t e))) h (λh A=>?_) (λns h A=>?_) (A o rfl)) A
 ·exact Dm H (λO O z=>by injection z) C A (hT h) ((eH K e _ rs f _ E).1 c)
 ·rcases lU h with h|h
  ·refine KD h λi j h=>tH (C:=λD=>swappedStores [.Tuple D k g] (.Tuple n p s) f=pure (some ns)->swapsWith (.Tuple n p s) (some (.Tuple D k g)) H.line f=pure false->Sx l G f rs v q (.Assign [.Tuple D k g] (.Tuple n p s) H) (S (aY l) l.ht v q (.assign (.av (.cons (.af i) (.cons (.af j) .nil))) e))) h (λa b h A C=>gO (C:=λa=>swappedStores [.Tuple [a,b] k g] (.Tuple n p s) f=pure (some ns)->swapsWith (.Tuple n p s) (some (.Tuple [a,b] k g)) H.line f=pure false->Sx l G f rs v q (.Assign [.Tuple [a,b] k g] (.Tuple n p s) H) (S (aY l) l.ht v q (.assign (.av (.cons (.af i) (.cons (.af j) .nil))) e))) h (λx U h A C=>gO (C:=λb=>swappedStores [.Tuple [.Name x U,b] k g] (.Tuple n p s) f=pure (some ns)->swapsWith (.Tuple n p s) (some (.Tuple [.Name x U,b] k g)) H.line f=pure false->Sx l G f rs v q (.Assign [.Tuple [.Name x U,b] k g] (.Tuple n p s) H) (S (aY l) l.ht v q (.assign (.av (.cons (.af i) (.cons (.af j) .nil))) e))) h (λy L h A C=>?_) A C) A C) A C
   rw[cf (V (V h).1).1] at A;exact Xs K E st c C A (V (V h).1).2 (V h).2
  ·refine Wj h λi j m h=>DY (C:=λD=>swappedStores [.Tuple D k g] (.Tuple n p s) f=pure (some ns)->swapsWith (.Tuple n p s) (some (.Tuple D k g)) H.line f=pure false->Sx l G f rs v q (.Assign [.Tuple D k g] (.Tuple n p s) H) (S (aY l) l.ht v q (.assign (.av (.cons (.af i) (.cons (.af j) (.cons (.af m) .nil)))) e))) h (λa b d h A C=>gO (C:=λa=>swappedStores [.Tuple [a,b,d] k g] (.Tuple n p s) f=pure (some ns)->swapsWith (.Tuple n p s) (some (.Tuple [a,b,d] k g)) H.line f=pure false->Sx l G f rs v q (.Assign [.Tuple [a,b,d] k g] (.Tuple n p s) H) (S (aY l) l.ht v q (.assign (.av (.cons (.af i) (.cons (.af j) (.cons (.af m) .nil)))) e))) h (λx U h A C=>gO (C:=λb=>swappedStores [.Tuple [.Name x U,b,d] k g] (.Tuple n p s) f=pure (some ns)->swapsWith (.Tuple n p s) (some (.Tuple [.Name x U,b,d] k g)) H.line f=pure false->Sx l G f rs v q (.Assign [.Tuple [.Name x U,b,d] k g] (.Tuple n p s) H) (S (aY l) l.ht v q (.assign (.av (.cons (.af i) (.cons (.af j) (.cons (.af m) .nil)))) e))) h (λy L h A C=>gO (C:=λd=>swappedStores [.Tuple [.Name x U,.Name y L,d] k g] (.Tuple n p s) f=pure (some ns)->swapsWith (.Tuple n p s) (some (.Tuple [.Name x U,.Name y L,d] k g)) H.line f=pure false->Sx l G f rs v q (.Assign [.Tuple [.Name x U,.Name y L,d] k g] (.Tuple n p s) H) (S (aY l) l.ht v q (.assign (.av (.cons (.af i) (.cons (.af j) (.cons (.af m) .nil)))) e))) h (λu up h A C=>?_) A C) A C) A C) A C
   rw[cf (V (V h).1).1] at A;exact Xu K E st c C A (V (V h).1).2 (V h).2
theorem Xz (E:dJ m d sc)(st:df l m d rs)(r:d.scope.kind=.function)(q:Bool)(t:Tg)(e:PE)(a b:Expr)(i:Pos)(c:El w sc rs t e a b=true):Sx l m d rs n q (.Assign [a] b i) (S (aY l) l.ht n q (.assign t e)):=by
 have p:=V c;have g:=V p.1;have h:=p.2;by_cases j:xb b=true
 ·rw[aG j] at h
  exact Xx K E st r q t e a b i (cw g.1) g.2 h
 ·rw[aH j] at h
  rw[uR] at j;have go:swappedStores [a] b d=pure none->k8 w sc rs t a=true->Sx l m d rs n q (.Assign [a] b i) (S (aY l) l.ht n q (.assign t e)):=λu s=>Dm i (Em (cw g.1)) (Eb j _ _) u (xg K E st q t _ s) ((eH K e sc rs d _ E).1 g.2);by_cases f:tP a=true
  ·rw[aG f] at h
   by_cases k:tP b=true
   ·rw[aG k] at h
    exact Xy K E st r q t e a b i g.2 h
   ·rw[aH k] at h
    rw[uR] at k;exact go (Expr.Tuple.elim (motive_1:=λa=>swappedStores [a] b d=pure none) a (bG.mp f) λO O O=>Xd k) h
  ·rw[aH f] at h
   rw[uR] at f;exact go (KY f (cw (V h).1)) (V h).2
theorem XA (E:dJ m a sc)(d:Cl)(es:da)(q:Bool)(h:(d.hP&&fP w sc x (.cl d)&&gz w sc rs es n&&(!es.has||es.a8))=true):Sx l m a rs b q (.Raise (some (.Call (.Name x y) n [] u)) none p) (S (aY l) l.ht b q (.dw d es)):=by
 have f:=V h;have i:=V f.1;have j:=V i.1;have g:=mj j.2;have s:=KV K (hc:=b) (q:=q) es sc rs a _ E i.2;refine(VI K.ok K.eo d j.1 (E.kind g.2.1) g.2.2 (K.cl _ _ g.1).1 (tN s.1 a _).1 s.2.1).imp λk Q X Y h=>⟨h.1,?_⟩;have h:=h.2.2;cases es with
 |nil=>exact⟨cI _,h⟩
 |cons e r=>
  cases r with
  |nil=>exact Eq.mp (br (λF=>W (aY l) l.ht b q e k F (λc t=>X c t k) Y) (funext λv=>funext λY=>propext ⟨λz=>⟨dE _,z⟩,λz=>z.2⟩)) h.2
  |cons O O=>injection (f.2)
theorem XB (E:dJ e a sc)(st:df l e a rs)(H:xh l w e j a sc rs b)(C:Er l w e j a sc rs r):Er l w e j a sc rs (.cons d v b r):=λt c=>by
 cases t with
 |nil=>injection c
 |cons t D=>
  have m:=V c;refine Xl (C:=λt=>pU l e a rs j (t::D) (λc t=>Sh (aY l) l.ht j c t (.cons d v b r))) m.1 λx I A U G p h=>?_;have q:=V h;have f:=V q.1;have s:=V f.1;have k:=V s.1;have g:=mj s.2;have u:=H true _ q.2;have y:=C _ m.2;have z:=yt (cw k.2);cases v with
  |none=>
   cases A with
   |none=>exact VK K.ok K.eo K.so st d k.1 z (E.kind g.2.1) g.2.2 (K.cl _ _ g.1).1 u y rfl
   |some O=>injection (f.2)
  |some i=>
   cases A with
   |none=>injection (f.2)
   |some n=>exact VL K.ok K.eo K.so st d k.1 z (E.kind g.2.1) g.2.2 (K.cl _ _ g.1).1 (rh E f.2).1 (rh E f.2).2 u y rfl
omit K in
theorem Lj (f:Ep l w b d a sc rs s)(e:xh l w b d a sc rs r):xh l w b d a sc rs (.cons s r):=λq t c=>by
 cases t with
 |nil=>injection c
 |cons t g=>exact tm (f q t (V c).1) (e q g (V c).2)
end
include K
theorem Lk (E:dJ n g sc)(st:df l n g rs)(hk:g.scope.kind=.function)(p:PS):Ep l w n r g sc rs p:=
 PS.rec (motive_1:=λp=>Ep l w n r g sc rs p) (motive_2:=λp=>xh l w n r g sc rs p) (motive_3:=λp=>Er l w n r g sc rs p)
  (λt e q s c=>K9 (c:As (El w sc rs t e) s=true) λI j pos h=>Xz K E st hk q t e I j pos h)
  (λi o e q s c=>Ee (show rg o.op (λt j=>eQ (λx=>decide (rs.lookup x=some i)&&lc sc x) t&&bu w sc rs e j) s=true from c) λt j p h=>gO (C:=λt=>Sx l n g rs r q (.AugAssign t o.op j p) _) (V h).1 λx xp H=>Tv st o _ _ (cf (V H).1) (En E (V H).2) ((eH K e sc rs g _ E).1 (V h).2))
  (λb a o e q s c=>Ee (show rg o.op (λt j=>pW a.str (λv O=>bu w sc rs b v) t&&bu w sc rs e j) s=true from c) λt j p h=>w5 (C:=λt=>Sx l n g rs r q (.AugAssign t o.op j p) _) (V h).1 λv vp H=>Tw K.ok K.ck a o _ _ ((eH K b sc rs g _ E).1 H) ((eH K e sc rs g _ E).1 (V h).2))
  (λb k o e q s c=>Ee (show rg o.op (λt j=>q9 (λv i=>!tK i&&bu w sc rs b v&&bu w sc rs k i) t&&bu w sc rs e j) s=true from c) λt j p h=>Ak (C:=λt=>Sx l n g rs r q (.AugAssign t o.op j p) _) (V h).1 λv i vp H=>V0 K.ok o _ _ (Li (cw (V (V H).1).1)) ((eH K b sc rs g _ E).1 (V (V H).1).2) ((eH K k sc rs g _ E).1 (V H).2) ((eH K e sc rs g _ E).1 (V h).2))
  (λe q s c=>Xk (show Ek (λj=>!xb j&&bu w sc rs e j) s=true from c) λj p h=>S6 _ (Eb (cw (V h).1) _ _) ((eH K e sc rs g _ E).1 (V h).2))
  (λe q s c=>Xe (c:Ed (λo=>kb (e.iy) (bu w sc rs e) o) s=true) λo p h=>tQ (C:=λo=>Sx l n g rs r q (.Return o p) (S (aY l) l.ht r q (.ret e))) h (λz=>D6 z▸(λρ Q X Y A δ s U h=>wpAny_Return_none (cB.now (tk₁:=s.toks) (cE.refl U.I) U.l (.ret .none) h))) λj h=>S4 _ ((eH K e sc rs g _ E).1 h))
  (λC a b ha u q s c=>Xg (show Eg (λJ a' m=>iF C&&bu w sc rs C J&&f7 w sc rs a a'&&f7 w sc rs b m) s=true from c) λt x y p h=>
   have G:=V h;have D:=V G.1
   S5 _ ((eH K C sc rs g _ E).2.1 (V D.1).2 (V D.1).1) (ha q x D.2) (u q y G.2))
  (λt L b u q s c=>La (show Au (λI M m=>!tL M&&k8 w sc rs t I&&oK w sc rs L (bu w sc rs L) M I&&f7 w sc rs b m) s=true from c) λI M m p h=>
   have G:=V h;have D:=V G.1;have h3:=V D.1
   Jw st _ (λx=>Ap (cw h3.1) g x) (xg K E st q t _ h3.2) ((eH K L sc rs g _ E).2.2 _ D.2) (u q m G.2))
  (λC b u q s c=>Xf (show Ef (λJ m=>iF C&&bu w sc rs C J&&f7 w sc rs b m) s=true from c) λt m p h=>Uu st _ ((eH K C sc rs g _ E).2.1 (V (V h).1).2 (V (V h).1).1) (u q m (V h).2))
  (λb hs u hh q s c=>Xi (show Ei (λm Ll=>f7 w sc rs b m&&Aw w sc rs hs Ll) s=true from c) λm h₀ Ll p h=>(VV st _ (u q m (V h).1) (hh _ (V h).2)).imp λO O O O z=>z)
  (λb f u hf q s c=>Xj (show Ej (λm f'=>f7 w sc rs b m&&f7 w sc rs f f') s=true from c) λm aeQ fs p h=>VY st _ (u q m (V h).1) (hf q _ (V h).2))
  (λd es q s c=>Xh (c:Eh (λx N=>d.hP&&fP w sc x (.cl d)&&gz w sc rs es N&&(!es.has||es.a8)) s=true) λx np N cp p h=>XA K E d es q h)
  (λq s c=>dy (C:=λs=>Sx l n g rs r q s (S (aY l) l.ht r q .CD)) (o:=Ec s) (f:=λO=>true) (c:(Ec s).any (λO=>true)=true) λp O=>λρ Q X Y A δ s U h=>wpAny_Pass (cB.now (tk₁:=s.toks) (cE.refl U.I) U.l .next h))
  (λq s c ρ Q X Y A δ s' U h=>False.elim h)
  (λq t c=>f6 c▸Dj) (λO O=>Lj) (λt c=>f6 c▸VJ st) (λO O O O=>XB K E st) p
theorem Ln (E:dJ b a sc)(st:df l b a rs)(d:a.scope.kind=.function)(p:cS):xh l w b e a sc rs p:=
 match p with
 |.nil=>λq t c=>f6 c▸Dj
 |.cons s r=>Lj (Lk K E st d s) (Ln E st d r)
theorem Lp (E:dJ b a sc)(st:df l b a rs)(d:a.scope.kind=.function)(q:Bool)(p:cS)(t:List Stmt)(c:f7 w sc rs p t=true):fy l b a rs hc q t (Ss (aY l) l.ht hc q p):=Ln K E st d p q t c
theorem XC (E:dJ b a sc)(st:df l b a rs)(d:a.scope.kind=.function)(p:PS)(q:Bool)(t:Stmt)(c:jf w sc rs p t=true):Sx l b a rs hc q t (S (aY l) l.ht hc q p):=
 (Lk K E st d p) q t c
end
noncomputable def Lq (K:Frag)(a:Addr)(f:Value->Array Value->Bool):Bool:=(K.lookup a).any λo=>match o.data with|.seq b _=>f o.cls b|_=>false
theorem Lr {K:Frag}(h:(K.lookup a).any f=true):∃o,K.lookup a=some o/\f o=true:=by
 cases q:K.lookup a with
 |none=>rw[q] at h;exact absurd h dz
 |some o=>rw[q] at h;exact aQ o rfl h
theorem XD {K:Frag}{P:Prop}(h:Lq K a f=true)(k:∀c d b n e,K.lookup a=some ⟨c,d,.seq b n,e⟩->f c b=true->P):P:=by
 refine ai (Lr h) λg q h=>?_;obtain⟨c,d,x,e⟩:=g;cases x with
 |seq b n=>exact k c d b n e q h
 |_=>exact absurd h dz
noncomputable def Ls (f:List Stmt->Bool)(b:FuncBody):Bool:=match b with|.stmts b=>f b|_=>false
def Ay (K:Frag) (a:Addr) (f:FuncData->List Stmt->Bool):Bool:=(K.lookup a).any λo=>match o.data with|.func b=>Ls (f b) b.body|_=>false
theorem XE (h:Ls f b=true):∃c,b=.stmts c/\f c=true:=by
 cases b with
 |stmts c=>exact aQ c rfl h
 |_=>exact absurd h dz
theorem Es {K:Frag}{P:Prop}(h:Ay K a f=true)(k:∀g i e j body,K.lookup a=some ⟨g,i,.func e,j⟩->e.body=.stmts body->f e body=true->P):P:=by
 refine ai (Lr h) λn q h=>?_;obtain⟨c,d,x,m⟩:=n;cases x with
 |func e=>exact ai (XE h) λb l h=>k c d e m b q l h
 |_=>exact absurd h dz
section
variable {C:PV->Prop}
theorem XF (h:p.hN f false=true)(k:∀b,f b=true->C (.bool b)):C p:=by cases p<;>first|exact k _ h|exact absurd h dz
theorem XG (h:p.cu f false=true)(k:∀b,f b=true->C (.int b)):C p:=by cases p<;>first|exact k _ h|exact absurd h dz
theorem XH (h:p.d6 f false=true)(k:∀b,f b=true->C (.str b)):C p:=by cases p<;>first|exact k _ h|exact absurd h dz
theorem XI (h:p.lR f false=true)(k:∀b,f b=true->C (.bytes b)):C p:=by cases p<;>first|exact k _ h|exact absurd h dz
theorem XJ (h:p.jW f false=true)(k:∀b,f b=true->C (.av b)):C p:=by cases p<;>first|exact k _ h|exact absurd h dz
end
def Eu (K:Frag) (rec:Value->PV->Bool) (v:Value) (p:PV):Bool:=match v with
 |.none=>p.ctorIdx==0
 |.bool b=>p.hN (·==b) false
 |.int i _=>p.cu (·==i) false
 |.str x _=>p.d6 (x.cps.toList==·) false
 |.bytes b _=>p.lR (b.toList.map UInt8.toNat==·) false
 |.ref a=>p.jW (λd=>Lq K a λc e=>c==.type "tuple"&&((e.toList.length==d.length)&&(e.toList.zip d).all λy=>rec y.1 y.2)) false
 |_=>false
def Az (K:Frag):Nat->Value->PV->Bool
 |0=>Eu K λO O=>false
 |n+1=>Eu K (Az K n)
theorem aJ.Lu:∀{a:List PV},b.length=a.length->(∀y∈b.zip a,ag h y.1 y.2)->aJ h b a:=by
 induction b with
 |nil=>exact λ{a} e O=>uH.mp e.symm▸.nil
 |cons v b c=>
  intro a e k;cases a with
  |nil=>injection e
  |cons p a=>exact .cons (k (v,p) (.head _)) (c (Nat.succ.inj e) λy m=>k y (.tail _ m))
theorem Lv {K:Frag}(K0:K.In h)(g:∀v p,rec v p=true->ag h v p)(v:Value)(p:PV)(e:Eu K rec v p=true):ag h v p:=by
 cases v with
 |none=>exact PV.none.elim (motive_1:=λp=>ag h .none p) p (bG.mp e) .none
 |bool b=>exact XF e λc e=>(bG.mp e).symm▸.bool b
 |int i t=>exact XG e λc e=>(bG.mp e).symm▸.int i t
 |str x t=>exact XH e λl e=>.str x t (bG.mp e)
 |bytes b t=>exact XI e λl e=>.bytes b t (bG.mp e)
 |ref a=>exact XJ e λm e=>XD e λc d k n q f e=>.av (vs:=k.toList) (uE _ (K0 _ _ f) (bG.mp (V e).1) n rfl) (aJ.Lu (bG.mp (V (V e).2).1) λy j=>g _ _ (bI.mp (V (V e).2).2 y j))
 |_=>injection e
theorem Lw {K:Frag}(K0:K.In h)(n:Nat):∀(v:Value) (p:PV),Az K n v p=true->ag h v p:=by
 induction n with
 |zero=>exact Lv K0 λO O e=>Bool.noConfusion e
 |succ n a=>exact Lv K0 a
theorem XK (names:List (Str×NameKind)):∀(k j:Nat) (a b:List (Str×Addr)),(a.lookup x).isSome=(b.lookup x).isSome->((cellsFrom k names a).lookup x).isSome=((cellsFrom j names b).lookup x).isSome:=by
 induction names with
 |nil=>exact λO O O O e=>e
 |cons p r c=>
  intro k j a b e;obtain⟨n,d⟩:=p;unfold cellsFrom;split
  ·refine c _ _ _ _ (B d0 (B d0 ?_))
   cases x==n
   ·exact e
   ·rfl
  ·exact c _ _ _ _ e
noncomputable def Ew (scope:Scope)(x:Str):Bool:=decide (scope.names.lookup x=some .local)||(decide (scope.names.lookup x=some .cell)&&((cellsFrom 0 scope.names []).lookup x).isSome)
theorem Lx (e:Ew scope x=true):DQ scope x:=
 (lU e).imp cf λz=>⟨cf (V z).1,λk=>(XK _ k 0 [] [] rfl).trans (V z).2⟩
noncomputable def ri (a:FuncData):List Str:=a.params.args.map (·.arg)
def Ey (scope:Scope) (a:List Str) (n:Nat) (rs:List (Str×Nat)):Bool:=
 h6 [decide (scope.kind=.function),decide a.Nodup,decide (a.length<=n),a.all (Ew scope),rs.all λy=>h6 [decide (y.2<n),Ew scope y.1,decide (a.length<=y.2)||decide (a[y.2]? =some y.1),rs.all λz=>!(z.2==y.2)||decide (z.1=y.1)]]
def xi (K:Frag) (a:FuncData) (b:List PV) (n:Nat) (rs:List (Str×Nat)):Bool:=
 h6 [a.closure.isEmpty,a.globals==mainGlobals,a.builtins==builtinsNs,!a.scope.isCoroutine,!a.scope.isGenerator,codeIn K a.code a.qualname,Ey a.scope (ri a) n rs,(tF K a.defaults).length==b.length,((tF K a.defaults).zip b).all λy=>Az K 3 y.1 y.2]
theorem Ez [BEq a][LawfulBEq a]{rs:List (a×b)}(h:rs.lookup x=some i):(x,i)∈rs:=by refine fj (uG.mp h) λl r e O=>B e ?_;simp
theorem Ly {rs:List (Str×Nat)}(e:Ey scope d n rs=true):wZ scope d n rs:=by
 have a:=λx i (h:rs.lookup x=some i)=>bI.mp (bj e 4) _ (Ez h);exact⟨cf (bj e 0),cf (bj e 1),cf (bj e 2),λx m=>Lx (bI.mp (bj e 3) x m),
  λx i h=>aS (cf (bj (a x i h) 0)) (Lx (bj (a x i h) 1)) (λl=>(lU (bj (a x i h) 2)).elim (λz=>absurd (cf z) (Nat.not_le.mpr l)) cf),
  λx y i b c=>((lU (bI.mp (bj (a x i b) 3) _ (Ez c))).elim (λz=>absurd rfl (nB z)) cf).symm⟩
theorem EA {body:List Stmt}{rs:List (Str×Nat)}(d:b.K.lookup (b.c1 f)=some ⟨j,k,.func a,l⟩)(g:a.body=.stmts body)(e:xi b.K a c n rs=true):w2 b f a body (ri a) c n rs:=
 ⟨(OD j k l d),g,uO.mp (bj e 0),bG.mp (bj e 1),bG.mp (bj e 2),cw (bj e 3),cw (bj e 4),bj e 5,Ly (bj e 6),λh K0=>aJ.Lu (bG.mp (bj e 7)) λy i=>Lw K0 3 _ _ (bI.mp (bj e 8) y i)⟩
noncomputable def AA (K:Frag)(a:Addr):FuncData:=match K.lookup a with|some ⟨_,_,.func b,_⟩=>b|_=>default
theorem EB {K:Frag}(h:K.lookup a=some ⟨c,d,.func b,e⟩):AA K a=b:=by unfold AA;exact B h rfl
abbrev oN (K:Frag) (a:Addr) (k j:Nat):Prop:=oI k (pT K (AA K a) (ri (AA K a)) j)
def ml (K:Frag) (a:Addr) (k:Nat):Nat->Prop
 |0=>oN K a k 0
 |j+1=>oN K a (k+(j+1)) (j+1)/\ml K a k j
theorem ml.get {K:Frag}(h:ml K a k m):∀{j:Nat},j<=m->oN K a (k+j) j:=by
 induction m with
 |zero=>exact λl=>B (Nat.le_zero.mp l) h
 |succ m b=>exact λ{j} l=>(Nat.lt_or_eq_of_le l).elim (λl=>b h.2 (yz l)) λq=>q▸h.1
theorem Lz (ok:c7 c)(e:nsIn c.K mainGlobals x=some (some v)):Gv c x v:=by exact ai ok.cH λd a b=>.inl (aQ d a (b _ _ e))
theorem XM (K:je a v){body:List Stmt}{rs:List (Str×Nat)}(l:a.K.lookup (a.c1 f)=some ⟨C,D,.func d,G⟩)(w:d.body=.stmts body)
  (e:xi a.K d dP n rs=true) (ec:f7 v d.scope rs p body=true) (A:a.ht f=x+1) (s:ml a.K (a.c1 f) k dP.length) (z:(ri d).length=m) (y:k+dP.length=m) (g:r.length=k+j) (i:j<=dP.length)
  (h:Ss (aY a) a.ht x q p (mh n m (r++dP.drop j)) (λu O Y=>match u with|.ret p=>Q p Y|.next=>Q .none Y|_=>False) (λc t O Y=>X c t Y) Y):aY a q f r Q X Y:=by
 have F:=EA l w e;subst z;have b:=s.get i;rw[←g] at b;unfold oN at b;rw[EB l] at b;exact JV K.ok F A (λH L st=>Lp K ⟨rfl,st.gL⟩ st F.aV.kind q p body ec) (by rw[bR,yB,g,mN,Nat.add_sub_cancel' i,y]) b h
def LA (K:Frag) (d:List (Str×GV)) (a:Addr) (c:List PV) (n:Nat) (rs:List (Str×Nat)) (e:Nat) (p:cS):Bool:=Ay K a λb body=>h6 [xi K b c n rs,f7 d b.scope rs p body,decide ((ri b).length=e)]
theorem XN (K:je cx i){rs:List (Str×Nat)}(e:LA cx.K i (cx.c1 f) dP n rs a p=true)(w:cx.ht f=s+1)(d:ml cx.K (cx.c1 f) k dP.length)(u:k+dP.length=a)
  (h:Ss (aY cx) cx.ht s q p (mh n a (b++dP.drop j)) (λg O Y=>match g with|.ret p=>Q p Y|.next=>Q .none Y|_=>False) (λc t O Y=>X c t Y) Y) (l:b.length=k+j) (m:j<=dP.length):aY cx q f b Q X Y:=
 Es e λy z x A body v r e=>XM K v r (bj e 0) (bj e 1) w d (cf (bj e 2)) u l m h
def LB (b:List Stmt):Bool:=k1 (λs=>As (λt e=>pW At.dp.str (λv O=>eQ (λx=>decide (x="self")) v) t&&eQ (λz=>decide (z="told")) e) s) b
theorem XO (h:LB b=true):∃c d a f,b=[.Assign [.Attribute (.Name "self" c) At.dp.str d] (.Name "told" a) f]:=
 nz (C:=λb=>∃c d a f,b=[.Assign [.Attribute (.Name "self" c) At.dp.str d] (.Name "told" a) f]) h λs h=>K9 (C:=λs=>∃c d a f,[s]=[.Assign [.Attribute (.Name "self" c) At.dp.str d] (.Name "told" a) f]) h λt e f h=>w5 (C:=λt=>∃c d a g,[Stmt.Assign [t] e f]=[.Assign [.Attribute (.Name "self" c) At.dp.str d] (.Name "told" a) g]) (V h).1 λv d j=>gO (C:=λv=>∃c i a g,[Stmt.Assign [.Attribute v At.dp.str d] e f]=[.Assign [.Attribute (.Name "self" c) At.dp.str i] (.Name "told" a) g]) j λx c k=>gO (C:=λe=>∃m i a g,[Stmt.Assign [.Attribute (.Name x c) At.dp.str d] e f]=[.Assign [.Attribute (.Name "self" m) At.dp.str i] (.Name "told" a) g]) (V h).2 λz a l=>mH c d (mH a f (B (cf k) (B (cf l) rfl)))
def LC (K:Frag) (a:Addr):Bool:=Ay K a λb body=>h6 [LB body,xi K b [.str []] 2 [],decide (ri b=[("self":Str),("told":Str)]),decide (b.scope.names.lookup ("self":Str)=some NameKind.local),decide (b.scope.names.lookup ("told":Str)=some NameKind.local)]
theorem XQ (h:LC a.K (a.c1 .fe)=true)(d:ml a.K (a.c1 .fe) 1 1):JX a:=
 Es h λq r i s body g j h=>by have F:=EA g j (bj h 1);refine eJ (XO (bj h 0)) λl m k=>eJ k λn p e=>?_;have f:=cf (bj h 2);have b:oN a.K (a.c1 .fe) 1 0:=d.2;have c:oN a.K (a.c1 .fe) 2 1:=d.1;unfold oN at b c;rw[EB g,f] at b c;rw[f,e] at F;exact⟨i,[],l,m,n,p,F,cf (bj h 3),cf (bj h 4),b,c⟩
noncomputable def tR:List Cl:=(List.finRange 16).map .mk
theorem xj (c:Cl):c∈tR:=List.mem_map.mpr (aQ c.i (List.mem_finRange _) rfl)
noncomputable def XS:List At:=(List.finRange 29).map .mk
noncomputable def XT:List bE:=(List.finRange 57).map .mk
section
variable (K:Frag)(e:Cl->Addr)(h:Fn->Addr)
def XU (c:Cl) (a:At):Bool:=h6 [(clsIn K (e c)).any (·.hasDict),findIn K (.ref (e c)) a.str==some none,Dd K (e c),findIn K (.ref (e c)) "__setattr__"==some (some (.builtin "object.__setattr__")),ti K (e c)]
def XW (c:Cl) (m:bE) (f:Fn):Bool:=h6 [findIn K (.ref (e c)) "__getattribute__"==some (some (.builtin "object.__getattribute__")),findIn K (.ref (e c)) "__getattr__"==some none,findIn K (.ref (e c)) m.str==some (some (.ref (h f))),typeIn K (.ref (h f))==some (.type "function"),keepIn K (.ref (h f))]
def XX (c:Cl):Bool:=h6 [DO K (e c),keepIn K (.ref (e c)),findIn K (.ref (e c)) "__init__"==some (some (.ref (h .fe))),(clsIn K (e c)).any (·.hasDict),findIn K (.ref (e c)) At.dp.str==some none,findIn K (.ref (e c)) "__setattr__"==some (some (.builtin "object.__setattr__")),ti K (e c)]
def XY (c:Cl):Bool:=h6 [keepIn K (.ref (e c)),makesIn K (e c),findIn K (.ref (e c)) "__init__"==some (some (.ref (h c.gw))),typeIn K (.ref (h c.gw))==some (.type "function")]
noncomputable def EC (x:Str)(v:Value):Bool:=nsIn K mainGlobals x==some (some v)
def xk (x:Str) (v:Value):Bool:=h6 [nsIn K mainGlobals x==some none,bootBuiltins x==some v,!(x==("__name__":Str))]
def LD (x:Str):GV->Bool
 |.gl g=>((nsIn K mainGlobals x).bind id).any λv=>Az K 3 v g.pv
 |.fn f=>EC K x (.ref (h f))&&keepIn K (.ref (h f))
 |.cl c=>EC K x (.ref (e c))&&(c.hP||XY K e h c)
 |.bi b=>xk K x b.val
 |.range=>xk K x (.type "range")
 |.ja=>xk K x (.type "enumerate")
 |.mi=>xk K x (.builtin "isinstance")
def LF (b:List (Str×GV)):Bool:=
 h6 [tR.all λc=>XS.all λa=>!c.fM a||XU K e c a,tR.all λc=>XT.all λm=>(c.au m).all (XW K e h c m),tR.all λc=>!c.hP||XX K e h c,typeIn K (.ref (h .fe))==some (.type "function"),LC K (h .fe),
  tR.all λc=>tR.all λd=>!d.hP||(decide (d=.pf)||(subIn K (.ref (e c)) (.ref (e d))==some (decide (c=d)))),b.all λy=>LD K e h y.1 y.2]
end
theorem XZ {a:List (Str×GV)}{P:Str->GV->Bool}(h:∀y∈a,P y.1 y.2=true)(e:a.lookup x=some g):P x g=true:=by exact fj (uG.mp e) λl r e O=>h (x,g) (by refine B e ?_;simp)
theorem X0 (h:(o.bind id).any f=true):∃v,o=some (some v)/\f v=true:=by
 cases o with
 |none=>exact absurd h dz
 |some o=>cases o with
  |none=>exact absurd h dz
  |some v=>exact aQ v rfl h
theorem ED (h:(!a||b)=true)(e:a=true):b=true:=by rw[e] at h;exact h
theorem LG (ok:c7 a)(h:EC a.K x v=true):Gv a x v:=Lz ok (beq_iff_eq.mp h)
theorem AB (ok:c7 e)(h:xk e.K x v=true):Gv e x v:=(by exact ai ok.cH λg a b=>ai ok.blt λf c d=>.inr (lB g f a (b _ _ (bG.mp (bj h 0))) c ((d x (eA.mp (cw (bj h 2)))).trans (bG.mp (bj h 1)))))
theorem X1 {i:Cx}(ok:c7 i)(h:LF i.K i.cy i.c1 j=true)(bi:ml i.K (i.c1 .fe) 1 1):je i j:=by
 have all2:∀{p q:Type} {f:p->q->Bool} {l:List p} {m:List q},(l.all λa=>m.all λb=>f a b)=true->∀a∈l,∀b∈m,f a b=true:=λh a A b H=>bI.mp (bI.mp h a A) b H;have g:=λ{x:Str} {g:GV} (e:j.lookup x=some g)=>XZ (P:=LD i.K i.cy i.c1) (bI.mp (bj h 6)) e;exact{
  ok:=ok
  ck:=⟨λc a e=>by have t:=ED (all2 (bj h 0) c (xj c) a ((bJ.mpr (aQ a.i (List.mem_finRange _) rfl)))) e;exact ai ((any_some (bj t 0))) λw s u=>gD w s u (cZ (bG.mp (bj t 1)) (bj t 2) (bG.mp (bj t 3)) (bj t 4))⟩
  mo:=⟨λc m f e=>by have t:=all2 (bj h 1) c (xj c) m ((bJ.mpr (aQ m.i (List.mem_finRange _) rfl)));rw[e] at t;exact gm (bG.mp (bj t 0)) (bG.mp (bj t 1)) (bG.mp (bj t 2)) (bG.mp (bj t 3)) (bj t 4)⟩
  eo:=⟨λc e=>by have t:=ED (bI.mp (bj h 2) c (xj c)) e;exact⟨bj t 0,bj t 1,bG.mp (bj t 2),bj t 3,bG.mp (bj t 4),bG.mp (bj t 5),bj t 6⟩,bG.mp (bj h 3),XQ (bj h 4) bi⟩
  so:=⟨λc d e n=>bG.mp ((lU (ED (all2 (bj h 5) c (xj c) d (xj d)) e)).resolve_left λz=>n (cf z))⟩
  gl:=λx C e=>by exact ai (X0 (g e)) λv y r=>aQ v (Lz ok y) (λh k=>Lw (ok.HH.keeps k) 3 _ _ r)
  fn:=λx f e=>⟨LG ok (V (g e)).1,(V (g e)).2⟩
  cl:=λx c e=>⟨LG ok (V (g e)).1,λn=>by have m:=(lU (V (g e)).2).resolve_left (by exact B n dz);exact⟨bj m 0,bj m 1,bG.mp (bj m 2),bG.mp (bj m 3)⟩⟩
  bi:=λx b e=>AB ok (g e)
  range:=λx e=>AB ok (g e)
  ja:=λx e=>AB ok (g e)
  mi:=λx e=>AB ok (g e)}
theorem X2 (e:a[i]? =some (some v))(h:Q v):lT a i Q:=by unfold lT;exact B e h
theorem X3 (ok:c7 c){body:Expr}
  (M:s.heap.get? f=some {cls:=.type "function",data:=.func a}) (C:a.body=.expr body) (j:a.globals=mainGlobals/\a.closure=[]/\a.builtins=builtinsNs) (H:∀v S,peek [] S (bindArgs a ⟨[v],[]⟩)=some [(x,v)]) (aV:wZ a.scope [x] 1 [(x,0)])
  (J:a.scope.isCoroutine=false) (N:a.scope.isGenerator=false) (G:s.heap.CodeRec a.code a.qualname) (l:eN A d (D+1) false) (I:bk c d Y n s.heap)
  (u:∀L,dJ (gN a L f::d) (gN a L f) a.scope->Ex c (gN a L f::d) (gN a L f) [(x,0)] D false body w) (r:ag s.heap v p) (h:w [some p] Q (λO O O=>False) Y) {E:Value->Shared->Prop}:
  codeAny (model c.prog c.w) A (.call (.ref f) ⟨[v],[]⟩) (λr k=>match r with|.ok (.ret v)=>bN c d Y n s Q v k|.ok _=>False|.error e=>E e k) s:=by
 refine kla_callFunE l.qT M rfl J N C G (Looks.here (Looks.of_peek (K:=[]) (λO O e=>(by injection e)) (H v _)) ?_);refine B j.1 (B j.2.1 (B j.2.2 (enter (vv:=[v]) aV l I (.cons r .nil) rfl f λenv k y=>?_)));obtain⟨L,h₁,tk,i,t,m,q,st,U⟩:=y;refine B i ?_;refine B t ?_;refine⟨ok.nolimit.keeps λb o e=>m b o (I.hW b o e),kla_codeExpr (bM (u L ⟨rfl,st.gL⟩ _ _ _ Y _ n _ U h) (λv' wR y=>?_) λe wR y=>?_)⟩
 ·obtain⟨p',σ',δ',dH,dI,i,g,r',z⟩:=y;refine B i ?_
  exact⟨p',σ',δ',dH,dI,rfl,DS m q rfl rfl (g.bp U.I),r',z⟩
 ·obtain⟨O,O,O,O,O,O,O,O,O,O,O,z⟩:=y
  exact z.elim
theorem AD (d:h.get? b=some (seqObj "list" g e))(f:Obj->Obj):cb h (h.update b f):=
 mZ (o5 h b f) λi t=>by refine gk t λo a c O=>?_;rw[d] at a;have a:=bo a;subst a;exact absurd (c:Value.type "list"=Value.type "tuple") dc
section
variable {E:Value->Shared->Prop}{s:Shared}{e e1:Nat}{F:PySem.Fin->Shared->Prop}
abbrev pY (a c:Addr):Addr->Prop:=λb=>b=a∨b=c
structure nE (f:Cx)(g:List Env)(Y:AH)(j:Addr->Addr)(h:Heap)(a c:Addr)(e1:Nat)(i:Array Value)(e:Nat)(d:Addr->Addr)(b:Heap):Prop where
 go:Go f g Y j h Y d b
 pv:d9 (pY a c) h Y d
 nk:b.get? c=some (seqObj "list" i e)
 na:b.get? a=some (seqObj "list" #[] e1)
theorem nE.dt (I:bk h i Y j s.heap)(g:Go h i Y j s.heap Y k d)(pv:d9 (pY a p) s.heap Y k)(l:pY a p b)(r:d.get? b=some (seqObj "list" t n))(f:Array Value->Array Value):Go h i Y j s.heap Y k (d.update b (Obj.mapSeq f)):=
 d9.q8 I g pv (λc o m n=>((o5 d b (Obj.mapSeq f)).2 c λq=>n (q▸l)).trans m) (AD r _)
theorem LH {st:SortSt}(I:bk j q Y y s.heap)(M:nE j q Y y s.heap a g e1 n e z f)(J:g≠a)
  (r:IntsAre n.toList w) (L:w.length=d.length) (LI:d.length<64) (u:(arrOf st).Perm (n.zip d.toArray)) (Q:SortedTo (arrOf st) (arrOf st).size) (G:failedOf st=none)
  (h:∀k tk x c,Go j q Y y s.heap Y z k->¬bF Y z a->k.get? a=some (seqObj "list" x c)->(cb f k)->KskOut false w d x.toList->F (.done (.ret .none)) (aa s k tk)):
  wpAny (model j.prog j.w) A (ksk_tail a false e1 (.ref g) st) F E (aa s f l):=by
 obtain⟨go,pv,p,na⟩:=M;have v:n.size=d.length:=by rw[←lF,r.length,L]
 have X4:(arrOf st).size=d.length:=by rw[u.size_eq,Array.size_zip,v,ei,Nat.min_self]
 have N:((arrOf st).map (·.2)).size=d.length:=B Array.size_map X4;have s1:=o5 f g (Obj.mapSeq λO=>(#[]:Array Value));have g1:=nE.dt I go pv (.inr rfl) p (λO=>#[]);have t1:=AD p (Obj.mapSeq λO=>(#[]:Array Value));have i:(f.update g (Obj.mapSeq λO=>(#[]:Array Value))).get? a=some (seqObj "list" #[] e1):=(s1.2 a J.symm).trans na;generalize C:f.update g (Obj.mapSeq λO=>(#[]:Array Value))=U at*;have H:=nE.dt I g1 pv (.inl rfl) i (λO=>(arrOf st).map (·.2));have t2:=AD i (Obj.mapSeq λO=>(arrOf st).map (·.2));obtain⟨m,D⟩:∃m,(U.update a (Obj.mapSeq λO=>(arrOf st).map (·.2))).get? a=some (seqObj "list" ((arrOf st).map (·.2)) m):=⟨_,get?_update_seq i λO=>(arrOf st).map (·.2)⟩
 try dsimp only
 refine ae (listUpdate_at p rfl (ae (wpAny_letGo ((B C (ae (seqEpoch_at (s:=aa s U l) i rfl (ae (listUpdate_at (s:=aa s U l) i rfl (B G ?_) (cI _) (aw (ju N) (B jR (aw (ip bW) dc)))))))):wpAny _ A _ _ _ (aa s (f.update g (Obj.mapSeq λO=>(#[]:Array Value))) l)))) (B v (B jR (aw (ip bW) dc))) (cI _));simp only[bne_self_eq_false,Bool.false_eq_true,if_false];exact aU (h _ l _ m H (pv a (.inl rfl)).2 D (λb d t=>t2 b d (t1 b d t)) (ksk_out (b:=false) r u Q))
theorem X5 (I:bk l r Y C s.heap)(M:nE l r Y C s.heap a y e1 d e D x)(u:y≠a)(g:IntsAre d.toList z)(p:z.length=b.length)(n:b.length<64)
  (h:∀m tk H c,Go l r Y C s.heap Y D m->¬bF Y D a->m.get? a=some (seqObj "list" H c)->(cb x m)->KskOut false z b H.toList->F (.done (.ret .none)) (aa s m tk)):
  wpAny (model l.prog l.w) A (ksk_end a false b.toArray e1 (.ref y) d) F E (aa s x tk₁):=by
 have w:d.size=b.length:=by rw[←lF,g.length,p]
 have q:(d.zip b.toArray).size=b.length:=by rw[Array.size_zip,w,ei,Nat.min_self]
 unfold ksk_end;simp only[Bool.false_eq_true,if_false];by_cases f:b.toArray.size<2
 ·refine B (aG f) (B (aG f) (ae (aU ?_)))
  rw[StateT.run_pure];refine ae (aU (LH (st:=SortSt.mk' general' (d.zip b.toArray) #[] 7 none) I M u g p n (Array.Perm.refl _) ?_ rfl h));intro i j Q hj;have t:j<(d.zip b.toArray).size:=hj;rw[q] at t;rw[ei] at f;have j0:=Nat.lt_one_iff.mp (lG t (yz f));subst j0;have L:=Nat.le_zero.mp Q;refine B L ?_;exact Int.le_refl _
 ·refine B (aH f) (B (aH f) ?_)
  rw[ei] at f;refine B (ksk_kind g (by rw[w];exact Nat.le_of_not_lt bW)) (ae (aU (ae (bM (wpS_sortRuns (a₀:=d.zip b.toArray) (st:=SortSt.mk' oneType' (d.zip b.toArray) #[] 7 none)
   (Q:=λO k=>(arrOf k).Perm (d.zip b.toArray)/\failedOf k=none/\SortedTo (arrOf k) (d.zip b.toArray).size)
   (ksk_intKeys g) ⟨Array.Perm.refl _,rfl,rfl,rfl⟩ (B q (Nat.le_of_not_lt bW)) (B q n) λk G U J=>aS G U J) ?_ λO O e=>e))))
  rintro ⟨⟨⟩,k⟩ s' ⟨rfl,v,N,hs⟩;exact LH I M u g p n v (B v.size_eq hs) N h
inductive X6 (b:Cx)(c:List Env)(Y:AH)(h:Addr->Addr)(s:Shared)(k:Int)(v:Value)(d:Shared):Prop
 |mk (i:Addr->Addr) (a:Heap) (f:Nat) (t:Tok) (e:d=aa s a f) (g:Go b c Y h s.heap Y i a) (j:v=.int k t)
theorem X7 (f:bN b c Y n s (λp a=>p=.int k/\a=Y) v i):X6 b c Y n s k v i:=by obtain⟨p,a,q,g,j,e,d,h,l,m⟩:=f;cases l;subst m;cases h;exact⟨q,g,j,_,e,d,rfl⟩
structure AE (n:Cx)(c:List Env)(Y:AH)(q l:Addr->Addr)(h f:Heap)(a g:Addr)(e1:Nat)(p:List Int)(i:Nat)(k:Addr->Addr)(d:Heap)(j:Array Value)(e:Nat):Prop where
 m:nE n c Y q h a g e1 j e k d
 tp:cb f d
 kp:∀b o,f.get? b=some o->¬bF Y l b->b∉cM c->¬pY a g b->d.get? b=some o
 no:∀b o,f.get? b=some o->¬bF Y l b->b∉cM c->¬pY a g b->¬bF Y k b
 ks:IntsAre j.toList (p.take i)
inductive X8 (c:Cx)(d:List Env)(Y:AH)(n r:Addr->Addr)(s:Shared)(f:Heap)(a h:Addr)(e1:Nat)(k:List Int)(i:Nat)(l:Shared):Prop
 |mk (p:Addr->Addr) (b:Heap) (m:Nat) (g:Array Value) (e:Nat) (q:l=aa s b m) (j:AE c d Y n r s.heap f a h e1 k i p b g e)
theorem nE.X9 (M:nE f g Y j s.heap a d e1 i e k c):∀b,pY a d b->c.get? b≠none:=λb x=>by
 rcases x with x|x<;>refine B x ?_
 ·exact B M.na (λh=>by injection h)
 ·exact B M.nk (λh=>by injection h)
theorem AE.next (I:bk j l Y v s.heap)(J:AE j l Y v G s.heap C a d e1 u i D w r e)(H:d≠a)(A:u[i]? =some k)(g:Go j l Y D w Y U p):
  p.get? d=some (seqObj "list" r e)/\∃c,AE j l Y v G s.heap C a d e1 u (i+1) U (p.update d (Obj.mapSeq (·.push (.int k t)))) (r.push (.int k t)) c:=by
 have h:=d9.JA I J.m.pv J.m.X9 g;have f:=h.2 d _ (.inr rfl) J.m.nk;have s1:=o5 p d (Obj.mapSeq (·.push (.int k t)));refine Gf f _ ⟨⟨nE.dt I (J.m.go.trans g) h.1 (.inr rfl) f _,h.1,get?_update_seq f (·.push (.int k t)),(s1.2 a H.symm).trans (h.2 a _ (.inl rfl) J.m.na)⟩,λb q x=>AD f _ b q (J.m.go.ak.mt.lX g.bh b q (J.tp b q x)),λb o e n m x=>(s1.2 b λz=>x (.inr z)).trans (g.bh.aa b o (J.kp b o e n m x) (J.no b o e n m x) m),λb o e n m x y=>(g.eM b y).elim (J.no b o e n m x) λz=>nn z (J.kp b o e n m x),?_⟩;exact B Array.toList_push (B List.take_add_one (B A (ksk_snoc J.ks)))
theorem LJ (h:m<=n)(l:n<64):m+1<=sizeLine:=Nat.le_trans (Nat.succ_le_succ h) (Nat.le_trans l (by rw[sizeLine_eq];decide))
theorem Yb {e0:Nat}(I:bk d u Y D s.heap)(M:nE d u Y D s.heap a kS e1 #[] e0 δ₁ h₁)(N:kS≠a)(z:H.length=g.length)(U:g.length<64)
  (iC:∀(i:Nat) (v:Value) (k:Int),g[i]? =some v->H[i]? =some k->∀(G:Addr->Addr) (r:Heap) (m:Nat),Go d u Y D s.heap Y G r->(cb h₁ r)->(∀b o,h₁.get? b=some o->¬bF Y δ₁ b->b∉cM u->¬pY a kS b->r.get? b=some o)->
   wpAny (model d.prog d.w) A (call f [v]) (bN d u Y G (aa s r m) (λp σ'=>p=.int k/\σ'=Y)) (λO O=>False) (aa s r m))
  (h:∀l m C c w,Go d u Y D s.heap Y w l->¬bF Y w a->l.get? a=some (seqObj "list" C c)->(cb h₁ l)->KskOut false H g C.toList->F (.done (.ret .none)) (aa s l m)):
  wpAny (model d.prog d.w) A (ksk_rest a f false g.toArray e1 (.ref kS)) F E (aa s h₁ tk₁):=by
 refine ae (mO ?_);rw[List.forIn_toArray];refine ae (ksk_fold (X8 d u Y D δ₁ s h₁ a kS e1 H) g 0 (aa s h₁ tk₁) ⟨δ₁,h₁,tk₁,#[],e0,rfl,M,λO O t=>t,λO O e O O O=>e,λO O O n O O=>n,B List.take_zero IntsAre.nil⟩ (λj x s' hx K=>?_) λs' K=>?_)
 ·cases K with|mk w l m kA e q J=>
  rw[lI] at J;rw[lI];refine B q ?_;have hj:=(kH.mp hx).1;have Q:=rW (z.symm▸hj:j<H.length);have hz:kA.size<=g.length:=by have y:=J.ks.length;have y:=lF▸y;have y:=List.length_take▸y;exact B y (z▸Nat.min_le_right _ _)
  refine ae (uZ (bM (iC j x _ hx Q w l m J.m.go J.tp J.kp) (λv s'' he=>?_) λO O hF=>hF.elim));cases X7 he with|mk G r LK t2 q g2 ev=>
  exact B q (B ev (Bq (J.next I N (t:=t2) Q g2) λYc c2 J2=>ae (listUpdate_at (s:=aa s r LK) Yc rfl (aU ⟨rfl,G,_,LK,_,c2,rfl,J2⟩) (aw (qD _) (LJ hz U)) (aw (ju (Array.size_push ..)) (lH (LJ hz U))))))
 ·cases K with|mk w l m kA e q J=>refine B q ?_;have L:=J.ks;rw[lI,←z,List.take_length] at L;exact ae (listItems_at (s:=aa s l m) J.m.nk rfl (X5 I J.m N L z U λh3 Yd C c g3 w3 n3 t3 k3=>h h3 Yd C c w g3 w3 n3 (λb g t=>t3 b g (J.tp b g t)) k3))
end
section
variable {E:Value->Shared->Prop}
theorem Ye (I:bk j w Y C s.heap)(hl:s.heap.IsList l vs.toArray)(hlen:kz.length=vs.length)(LI:vs.length<64)
  (iC:∀(i:Nat) (v:Value) (k:Int),vs[i]? =some v->kz[i]? =some k->∀(U:Addr->Addr) (t:Heap) (r:Nat),Go j w Y C s.heap Y U t->(cb s.heap t)->(∀b o,s.heap.get? b=some o->¬bF Y C b->b∉cM w->t.get? b=some o)->
   wpAny (model j.prog j.w) A.in1.in1 (call (.ref f) [v]) (bN j w Y U (aa s t r) (λp σ'=>p=.int k/\σ'=Y)) (λO O=>False) (aa s t r))
  (h:∀D u r H c G,Go j w Y C s.heap Y G u->s.heap.get? D=none->¬bF Y G D->u.get? D=some (seqObj "list" H c)->(cb s.heap u)->KskOut false kz vs H.toList->Q (.ref D) (aa s u r)):
  wpAny (model j.prog j.w) A (call (.builtin "sorted") [.ref l] [(Str.ofString "key",.ref f)]) Q E s:=by
 refine call_function_entry_kw kind_sorted plain_sorted entry_sorted (ksk_s1 (.ref l) (.ref f)) (ae (m:=checkCount "sorted" 1 1 _) (aU (ae (collect_list hl (ae (uY ?_ (B jR (aw (ip bW) dc)))) (B jR (aw (ip bW) dc))))));have z:((s.heap.push (seqObj "list" #[] 0)).update s.heap.objs.size (Obj.mapSeq (·++vs.toArray))).objs.size=s.heap.objs.size+1:=by rw[Heap.size_update,size_push']
 have y:(((s.heap.push (seqObj "list" #[] 0)).update s.heap.objs.size (Obj.mapSeq (·++vs.toArray))).push (seqObj "list" vs.toArray 0)).get? (s.heap.objs.size+1)=some (seqObj "list" vs.toArray 0):=by exact az z (eK _ rfl)
 have bh:∀b o,s.heap.get? b=some o->(((s.heap.push (seqObj "list" #[] 0)).update s.heap.objs.size (Obj.mapSeq (·++vs.toArray))).push (seqObj "list" vs.toArray 0)).get? b=some o:=λb o q=>by have J:b<s.heap.objs.size:=o9 q;refine B (Heap.get?_push_ne _ _ _ (by rw[z];exact kO (Nat.lt_succ_of_lt J))) (B (Heap.get?_update_ne _ _ _ _ (kO J)) (B (Heap.get?_push_ne _ _ _ (kO J)) ?_));exact q
 have Yg:(((s.heap.push (seqObj "list" #[] 0)).update s.heap.objs.size (Obj.mapSeq (·++vs.toArray))).push (seqObj "list" vs.toArray 0)).objs.size=s.heap.objs.size+2:=by rw[size_push',z]
 refine(?_:wpAny _ _ _ _ _ {s with heap:=((s.heap.push (seqObj "list" #[] 0)).update s.heap.objs.size (Obj.mapSeq (·++vs.toArray))).push (seqObj "list" vs.toArray 0)});rw[z];generalize hHA:((s.heap.push (seqObj "list" #[] 0)).update s.heap.objs.size (Obj.mapSeq (·++vs.toArray))).push (seqObj "list" vs.toArray 0)=d at*;refine ae (dm (wpAny_call_entry_kw (s:=aa s d s.toks) slot_list_sort (aQ _ y rfl) entry_list_sort ?body (ksk_l1 _ _)))
 case body=>
  refine(?_:wpAny (model j.prog j.w) A.in1.in1 (Builtin.«list.sort» ⟨[.ref (s.heap.objs.size+1)],[(Str.ofString "key",.ref f)]⟩) _ _ (aa s d s.toks));rw[ksk_t1];obtain⟨e1,M⟩:∃e1,(d.update (s.heap.objs.size+1) (Obj.mapSeq λO=>(#[]:Array Value))).get? (s.heap.objs.size+1)=some (seqObj "list" #[] e1):=⟨_,get?_update_seq y λO=>#[]⟩;have Yh:(d.update (s.heap.objs.size+1) (Obj.mapSeq λO=>(#[]:Array Value))).objs.size=s.heap.objs.size+2:=by rw[Heap.size_update,Yg]
  have Yi:∀b o,s.heap.get? b=some o->(d.update (s.heap.objs.size+1) (Obj.mapSeq λO=>(#[]:Array Value))).get? b=some o:=λb o q=>((o5 d (s.heap.objs.size+1) (Obj.mapSeq λO=>(#[]:Array Value))).2 b (kO (Nat.lt_succ_of_lt (o9 q)))).trans (bh b o q);unfold ksk_tree;refine ae (listItems_at (s:=aa s d s.toks) y rfl (ae (listUpdate_at (s:=aa s d s.toks) y rfl ?_ (B ei (B jR (aw (ip bW) dc))) (cI _))));generalize hHB:d.update (s.heap.objs.size+1) (Obj.mapSeq λO=>(#[]:Array Value))=a at*;refine ae (seqEpoch_at (s:=aa s a s.toks) M rfl (ae (wpAny_newTuple (s:=aa s a s.toks) (ae (uY (dm ?_) (cI _))) (by show vs.length<=_;exact B jR (aw (ip bW) dc)))));have N:(a.push (seqObj "tuple" vs.toArray 0)).objs.size=s.heap.objs.size+3:=by rw[size_push',Yh]
  have Yj:((a.push (seqObj "tuple" vs.toArray 0)).push (seqObj "list" #[] 0)).get? (s.heap.objs.size+1)=some (seqObj "list" #[] e1):=cR _ (cR _ M);have Yk:((a.push (seqObj "tuple" vs.toArray 0)).push (seqObj "list" #[] 0)).get? (s.heap.objs.size+3)=some (seqObj "list" #[] 0):=az N (eK _ rfl);have LL:∀b o,s.heap.get? b=some o->((a.push (seqObj "tuple" vs.toArray 0)).push (seqObj "list" #[] 0)).get? b=some o:=λb o q=>cR _ (cR _ (Yi b o q));refine((B (B N rfl:(Value.ref (a.push (seqObj "tuple" vs.toArray 0)).objs.size)=.ref (s.heap.objs.size+3)) ?_):wpAny _ A.in1.in1 (ksk_rest (s.heap.objs.size+1) (.ref f) false vs.toArray e1 (.ref (a.push (seqObj "tuple" vs.toArray 0)).objs.size)) _ _ (aa s ((a.push (seqObj "tuple" vs.toArray 0)).push (seqObj "list" #[] 0)) s.toks));generalize hHC:(a.push (seqObj "tuple" vs.toArray 0)).push (seqObj "list" #[] 0)=HC at*;have gu:∀b,pY (s.heap.objs.size+1) (s.heap.objs.size+3) b->s.heap.get? b=none:=λb x=>by rcases x with rfl|rfl<;>exact fY (gn _ _)
  refine Yb (δ₁:=C) (h₁:=HC) (tk₁:=s.toks) (e0:=0) (a:=s.heap.objs.size+1) (kS:=s.heap.objs.size+3) I ⟨(Go.ext I LL),(λb x=>⟨gu b x,λo=>I.mt.bO o (gu b x)⟩),Yk,Yj⟩ (λq=>absurd (Nat.add_left_cancel q) dc) hlen LI (λi v k hv hk U t r g tp kp=>?_) λu r H c G L w' n' t' k'=>aQ _ rfl ?_
  ·exact iC i v k hv hk U t r g (I.mt.lX g.bh) λb o e n m=>kp b o (LL b o e) n m λx=>by rw[gu b x] at e;injection e
  ·exact aU (aQ _ rfl (h _ u r H c G L (gu _ (.inl rfl)) w' n' (I.mt.lX L.bh) k'))
end
structure rj (a:Cx)(c P:Addr):Prop where
 hd:CodeHd a.base c P
 bm:∃d,a.base.Ns mainGlobals d/\∃bm b,d "__builtins__"=some (.ref bm)/\bm≠builtinsNs/\bm≠mainGlobals/\a.base.get? bm=some b/\b.cls=.type "module"/\b.dict=some builtinsNs/\b.data=.plain
 free:a.base.get? P=none
 ne:mainGlobals≠P
def nF (Y:AH) (P:Addr) (b:Pos) (e:Str):Prop:=Y P=some (.raw (tabObj #[]))∨
 ∃c a d t,Y P=some (.raw (tabObj #[rawInt b.line,rawInt b.col,.ref c]))/\c≠P/\Y c=some (.raw a)/\a.data=.fields d/\d[1]? =some (.str e t)
def xl (Y:AH) (code:Value) (d:Str):Prop:=∃a b c t,code=.ref a/\Y a=some (.raw b)/\b.data=.fields c/\c[1]? =some (.str d t)
theorem xl.rec {code:Value}(M:Mt g Y i h)(x:xl Y code d):h.CodeRec code d:=by obtain⟨a,c,f,t,e,e1,e2,b⟩:=x;exact⟨a,c,f,t,e,(M.aa a _ e1).1,e2,b⟩
section
variable {E:Value->Shared->Prop}
theorem Yl (lo:rj p c P)(AF:j.code=.ref c)(hg:j.globals=mainGlobals){body:Expr}(Ym:defaultsOf params j=([],[]))(Ac:∀y∈scope.names,y.2≠.free)(I:bk p envs Y m s.heap)(hq:U=j.qual++"<lambda>")(T:nF Y P d U)
  (h:∀f g u x pm code ct,Go p envs Y m s.heap x m g->s.heap.get? f=none->¬bF x m f->g.get? f=some {cls:=.type "function",data:=.func (kla_fn "<lambda>" U params body scope [] pm code ct)}->xl x code U->nF x P d U->(∀b,b≠P->Y b≠none->x b=Y b)->Q (.ref f) (aa s g u)):
  wpAny (model p.prog p.w) A (eval (.Lambda params body scope d) j) Q E s:=by
 subst hq;obtain⟨r,g0,bm,ob,b1,b2,b3,L,b5,b6,b7⟩:=lo.bm;have ng:closureFor scope j=pure []:=closureFor_none Ac;have LM:s.heap.Ns mainGlobals r:=g0.keeps λb o e=>I.hW b o e;have C:CodeHd s.heap c P:=lo.hd.keeps λb o e=>I.hW b o e;have Yn:bm≠P:=λq=>by rw[q,lo.free] at L;cases L
 have H:s.heap.BuiltinsAt r P:=⟨bm,ob,b1,b2,b3,Yn,I.hW _ _ L,b5,b6,b7⟩;refine kla_eval Ym ?_;rcases T with T|⟨a,l,w,t,T1,T0,J,T3,T4⟩
 ·have k:=(I.mt.aa P _ T).1
  refine kla_makeFunction (mg:=r) (ps:=#[]) ng hg LM AF C k trivial rfl lo.ne H λa D g u hx LN q7 Yo Yp=>?_;obtain⟨c₂,l,w,t,e2,LO,G,hv⟩:=Yo;cases e2;have N:=o5 s.heap P (λO=>tabObj (#[]++#[rawInt d.line,rawInt d.col,.ref a]));have uP:(s.heap.update P (λO=>tabObj (#[]++#[rawInt d.line,rawInt d.col,.ref a]))).get? P=some (tabObj (#[]++#[rawInt d.line,rawInt d.col,.ref a])):=uK _ k rfl;have gT:Go p envs Y m s.heap (Y.set P (.raw (tabObj (#[]++#[rawInt d.line,rawInt d.col,.ref a])))) m (s.heap.update P (λO=>tabObj (#[]++#[rawInt d.line,rawInt d.col,.ref a]))):=
   Go.iC I T (λO O z=>(by cases z)) (λO O z=>(by cases z)) N λO=>aS uP (λxs n z=>by cases z) (λv z=>by cases z)
  have gu:s.heap.get? a=none:=fY LN;have M:a≠P:=λq=>by rw[q,k] at gu;cases gu
  have kk:∀b o,(s.heap.update P (λO=>tabObj (#[]++#[rawInt d.line,rawInt d.col,.ref a]))).get? b=some o->(g.push (kla_obj "<lambda>" (j.qual++"<lambda>") params body scope [] ((r "__name__").getD .none) a D)).get? b=some o:=λb o e=>by
   by_cases q:b=P
   ·subst q;rw[uP] at e;cases e;exact cR _ Yp
   ·rw[N.2 b q] at e;exact cR _ (hx b o q e)
  have i:s.heap.get? g.objs.size=none:=fY (ip (gG LN q7));have nP:g.objs.size≠P:=λq=>by rw[q,k] at i;cases i
  refine h g.objs.size _ u _ _ (.ref a) D (gT.trans (Go.new (δ':=m) gT.ak (z:=a) (o:=.raw l) ((N.2 a M).trans gu) kk (aS (cR _ LO) (λO O z=>by rw[G] at z;cases z) (λO z=>by rw[G] at z;cases z)) (λO O=>rfl) (λO O z=>(by cases z)))) i (λo=>?_) (eK _ rfl) ⟨a,l,w,t,rfl,AH.a9 ..,G,hv⟩ (.inr ⟨a,l,w,t,?_,M,AH.a9 ..,G,hv⟩) λb n e=>?_
  ·rcases o with o|⟨b,cl,fs,e,q⟩
   ·rw[AH.cJ _ _ (Nat.ne_of_gt q7),AH.cJ _ _ nP] at o
    exact I.mt.bO (.inl o) i
   ·by_cases q1:b=a
    ·subst q1;rw[AH.a9] at e;cases e
    ·rw[AH.cJ _ _ q1] at e
     by_cases q2:b=P
     ·subst q2;rw[AH.a9] at e;cases e
     ·rw[AH.cJ _ _ q2] at e
      exact I.mt.bO (.inr ⟨b,cl,fs,e,q⟩) i
  ·rw[AH.cJ _ _ M.symm,AH.a9];rfl
  ·exact B (AH.cJ _ _ (λq=>by subst q;exact I.mt.bO (.inl e) gu)) (B (AH.cJ _ _ n) rfl)
 ·refine Ka (I.mt.aa P _ T1) λk O=>Ka (I.mt.aa a _ J) λLO O=>kla_makeFunctionHit (mg:=r) (ps:=#[rawInt d.line,rawInt d.col,.ref a]) ng hg LM AF C k trivial (codeAmong_snoc [] trivial rfl) H λD g u hk hsz=>?_
  have i:s.heap.get? g.objs.size=none:=fY hsz;exact h g.objs.size _ u Y _ (.ref a) D (Go.ext I (λb o e=>cR _ (hk b o e))) i (λo=>I.mt.bO o i) (eK _ rfl) ⟨a,l,w,t,rfl,J,T3,T4⟩ (.inr ⟨a,l,w,t,T1,T0,J,T3,T4⟩) λb n e=>rfl
end
theorem Yq (r:aJ h s (b.map .str))(H:KskOut false (b.map λl=>(l.length:Int)) s U)(t:cb h z):
  ∃c:List Bs,aJ z U (c.map .str)/\c.Perm b/\c.Pairwise (λx y=>x.length<=y.length):=by
 refine gk H λn g u A=>B u ?_;have f:=H7 (h:=h) C0 r;have key:∀p∈n,p.1=((pN p.2).length:Int)/\∃l,ag h p.2 (.str l):=λp m=>by refine Ke (List.getElem?_of_mem (g.mem_iff.mp m)) λi e=>?_;rw[List.getElem?_zip_eq_some] at e;refine Ka e λa d=>?_;rw[←f] at a;rw[eZ,eZ,d] at a;exact⟨by simpa using a.symm,zN r _ (List.mem_of_getElem? d)⟩
 refine gD ((n.map Prod.snd).map pN) (aJ.bU t (H8 C0 λv m=>?_)) ?_ ?_
 ·exact ai (bJ.mp m) λp C w=>az w ((key p C).2)
 ·have k:=(g.map Prod.snd).map pN
  rw[List.map_snd_zip (by rw[(by rw[aW,r.length,aW]:(b.map λl=>(l.length:Int)).length=s.length)];exact dE _),f] at k;exact k
 ·rw[cV,List.pairwise_map]
  refine List.Pairwise.imp_of_mem (λ{p q} D G j=>?_) A;have e1:=(key p D).1;have e2:=(key q G).1;have j:p.1<=q.1:=by simpa using j
  refine(?_:(pN p.2).length<=(pN q.2).length);lia
inductive Yr (P:Addr)(f:Pos)(g:Str)(i:Nat)(h:aP)(Q:PV->AH->Prop)(Y:AH):Prop
 |mk (a:Addr) (c:List Bs) (j:h[i]? =some (some (.ref a))) (k:Y a=some (.list (c.map .str))) (m:c.length<64) (n:∀l∈c,fits l=true) (T:nF Y P f g)
  (p:∀(d:AH) (e:List Bs) (z:Addr),nF d P f g->(∀b,b≠P->Y b≠none->d b=Y b)->e.Perm c->e.Pairwise (λx y=>x.length<=y.length)->d z=none->Q (.ref z) (d.set z (.list (e.map .str))))
def LP (P:Addr) (a:Pos) (b:Str) (i:Nat):WE:=λc Q O Y=>Yr P a b i c Q Y
structure Ys (d:Cx)(e:List (Str×GV))(c P:Addr)(a:Env)(x:Str)(params:Arguments)(body:Expr)(scope:Scope):Prop where
 lo:rj d c P
 code:a.code=.ref c
 bind:∀f code b v S,peek [] S (bindArgs (kla_fn "<lambda>" (a.qual++"<lambda>") params body scope [] f code b) ⟨[v],[]⟩)=some [(x,v)]
 dflt:defaultsOf params a=([],[])
 aV:wZ scope [x] 1 [(x,0)]
 co:scope.isCoroutine=false
 fu:scope.isGenerator=false
 free:∀y∈scope.names,y.2≠.free
 ck:bu e scope [(x,0)] (.bi .len (.cons (.af 0) .nil)) body=true
theorem eN.Yt (a:eN A b (c+2) q):eN A.in1.in1 b (c+1) q:=
 ⟨a.frames,a.quiet,pj (w:=0) a.depth (n5 _) (cI _),pj (w:=2) a.units (n5 _) dc⟩
section
variable (K:je g u){rs:List (Str×Nat)}{body:Expr}(L:Ys g u c P d x params body scope)
include K L
theorem Yu {h code b:Value}(i:eN A e (t+1) false)(I:bk g e Y n s.heap)(k:s.heap.get? f=some {cls:=.type "function",data:=.func (kla_fn "<lambda>" (d.qual++"<lambda>") params body scope [] h code b)})
  (j:xl Y code (d.qual++"<lambda>")) (r:ag s.heap v (.str l)) (m:fits l=true):wpAny (model g.prog g.w) A (call (.ref f) [v]) (bN g e Y n s (λp a=>p=.int l.length/\a=Y)) (λO O=>False) s:=
 n7 (codeAny_mono (X3 (E:=λO O=>False) K.ok k rfl ⟨rfl,rfl,rfl⟩ (L.bind h code b) L.aV L.co L.fu (xl.rec I.mt j) i I (λO E=>(eH K (.bi .len (.cons (.af 0) .nil)) scope [(x,0)] _ body E).1 L.ck) r (Q:=λp a=>p=.int l.length/\a=Y)
  ⟨rfl,(B (aG m) ⟨rfl,rfl⟩:bQ (if fits l=true then some (PV.int l.length) else none) (λr=>r=.int l.length/\Y=Y))⟩) λr w z=>by rcases r with q|(v|_|_|_)<;>first|exact z|exact z.elim)
theorem Yv {so w:Str}(Yw:d.kindOf so=some .globalImplicit)(hd:(so==("__debug__":Str))=false)(C:Gv g so (.builtin "sorted"))(e:rs.lookup w=some i)(Yx:(w==("__debug__":Str))=false)(Yy:(w==("__classdict__":Str))=false):
  Ex g envs d rs (hc+2) false (.Call (.Name so np) [.Name w ap] [⟨some "key",.Lambda params body scope lpos,kp⟩] pos) (LP P lpos (d.qual++"<lambda>") i):=λρ Q X Y A δ s U h=>by
 obtain⟨a,ls,h1,p,h3,h4,T,h5⟩:=h;refine wpAny_Call_Name_kw (jC Yw hd C U (callWith_kw (ar.first (oB (by rfl) (IS e Yx Yy) tg pos ρ (λps σ'=>ps=[.ref a]/\σ'=Y) X Y A δ s U (X2 h1 ⟨rfl,rfl⟩)) λr ps cN δ₁ G iT n ra l7=>?_)));have n:Go g envs Y δ s.heap Y δ₁ G:=l7.2▸n;refine B ((l7.1▸ra).OU:r=[.ref a]) (kws_cons (Yl (s:=aa s G iT) L.lo L.code U.l.cH L.dflt L.free n.ak rfl T λf dH dI bX pm code ct iE f0 fo hf LQ T2 M=>kws_nil (?_:wpAny _ A (call (.builtin "sorted") [.ref a] [(Str.ofString "key",.ref f)]) _ _ (aa (aa s G iT) dH dI))));rw[Qn];have y:=n.trans iE;have Yz:a≠P:=λq=>by rw[q] at p;exact T.elim (λT=>bS.noConfusion (ss p T)) λw1=>eJ w1 λO O qV=>fj qV λO O T O=>bS.noConfusion (ss p T)
 refine ai (y.ak.mt.aa a _ ((M a Yz (c0 p)).trans p)) λr hl H=>?_;have YA:f∉cM envs:=λm=>by obtain⟨O,o,ho,O⟩:=m6 U.I.frames f m;exact nn (n.bh.bO f f0) ho
 have lv:r.length=ls.length:=H.length.trans (aW ..);refine Ye (s:=aa s dH dI) (kz:=ls.map λl=>(l.length:Int)) y.ak (eL.eG hl) ((aW ..).trans lv.symm) (lv▸h3) (λj v k C N J eX eO z I kp=>?_) λD eX eO out ep J z zD nD hD I ko=>?_
 ·rw[eZ] at N
  refine ai (fW.mp N) λl LS YB=>az YB ?_;obtain⟨v',YC,rv⟩:=H.get (i:=j) (p:=.str l) (by refine B (eZ) (B LS ?_);rfl);exact Yu K L U.ok.Yt z.ak (kp f _ hf fo YA) LQ (ag.bU I (ss C YC▸rv)) (h4 l (uJ LS))
 ·refine gk (Yq H ko (λb r t=>I b r t)) λLU ro po so=>?_
  have zs:=y.bh.bO D zD;exact dD (qP U.I zs) λo1 o2 O=>⟨.ref D,_,J,eX,eO,rfl,Go.s7 (δ'':=J) (o:=.list (LU.map .str)) (y.trans z) o1 zs o2 nD (aQ out.toList (eL.of (n:=ep) hD) ro) (λO O=>rfl) (λc fs e=>bS.noConfusion e),.ref _,h5 bX LU D T2 M po so (zg nD)⟩
end
def LV (C:jX) (d:Fn->Nat) (b:Nat) (P:Addr) (e:Pos) (h:Str) (i j:Nat) (f:cS):WS:=λa Q X Y=>LP P e h i a (λv Y=>lV v Y λitems g=>jA (λx a Y K=>j<a.length/\Ss C d b false f (a.set j (some x)) K X Y) g Q items a Y) (λc t=>X c t a) Y
def AG (C:jX) (c:Fn->Nat) (b:Nat) (P:Addr) (d:Pos) (m:Str) (i j:Nat) (e g h:PS) (l:cS) (k:PS) (a:aP) (Q:Fl->aP->AH->Prop) (X:XR) (Y:AH):Prop:=
 S C c b false e a (λf a Y=>match f with
   |.next=>S C c b false g a (λf a Y=>match f with
    |.next=>S C c b false h a (λf a Y=>match f with
     |.next=>LV C c b P d m i j l a (λf a Y=>match f with
      |.next=>S C c b false k a (λf a Y=>match f with|.next=>Q .next a Y|f=>Q f a Y) X Y
      |f=>Q f a Y) X Y
     |f=>Q f a Y) X Y
    |f=>Q f a Y) X Y
   |f=>Q f a Y) X Y
noncomputable def LW (e:Expr):Option {y:Arguments×Expr×Scope×Pos//e=.Lambda y.1 y.2.1 y.2.2.1 y.2.2.2}:=if h:e.ctorIdx=4 then Expr.Lambda.elim (motive_1:=λe=>Option {y:Arguments×Expr×Scope×Pos//e=.Lambda y.1 y.2.1 y.2.2.1 y.2.2.2}) e h λa b c d=>some ⟨(a,b,c,d),rfl⟩ else none
def LX (f:Arguments->Expr->Scope->Pos->Bool) (e:Expr):Bool:=(LW e).any λy=>f y.1.1 y.1.2.1 y.1.2.2.1 y.1.2.2.2
@[elab_as_elim] theorem YD {C:Expr->Prop} (h:LX f e=true) (k:∀a b c d,f a b c d=true->C (.Lambda a b c d)):C e:=dy (o:=LW e) (f:=λy=>f y.1 y.2.1 y.2.2.1 y.2.2.2) h λy=>k y.1 y.2.1 y.2.2.1 y.2.2.2
noncomputable def EE (f:Arguments->Expr->Scope->Pos->Bool)(a:Keyword):Bool:=decide (a.arg=some "key")&&LX f a.value
@[elab_as_elim] theorem YE {C:Keyword->Prop} (h:EE f e=true) (k:∀a b c d p,f a b c d=true->C ⟨some "key",.Lambda a b c d,p⟩):C e:=by obtain⟨x,v,p⟩:=e;cases(cf (V h).1:x=some "key");exact YD (C:=λv=>C ⟨some "key",v,p⟩) (V h).2 λa b c d=>k a b c d p
def LY (f:Str->Str->Arguments->Expr->Scope->Pos->Bool) (e:Expr):Bool:=(Ai e).any λy=>eQ (λso=>k1 (eQ λa=>k1 (EE (f so a)) y.1.2.2.1) y.1.2.1) y.1.1
@[elab_as_elim] theorem YF {C:Expr->Prop} (h:LY f e=true) (k:∀so j i l params n r q t u,f so i params n r q=true->C (.Call (.Name so j) [.Name i l] [⟨some "key",.Lambda params n r q,t⟩] u)):C e:=
 dy (o:=Ai e) (f:=λy=>eQ (λso=>k1 (eQ λi=>k1 (EE (f so i)) y.2.2.1) y.2.1) y.1) h λy h=>gO (C:=λg=>C (.Call g y.2.1 y.2.2.1 y.2.2.2)) h λso j h=>nz (C:=λv=>C (.Call (.Name so j) v y.2.2.1 y.2.2.2)) h λa h=>gO (C:=λa=>C (.Call (.Name so j) [a] y.2.2.1 y.2.2.2)) h λi l h=>nz (C:=λs=>C (.Call (.Name so j) [.Name i l] s y.2.2.2)) h λm h=>YE (C:=λm=>C (.Call (.Name so j) [.Name i l] [m] y.2.2.2)) h λa b c d p=>k so j i l a b c d p y.2.2.2
theorem YG (h:h6 [kN p.posonlyargs,p.vararg.isNone,kN p.kwonlyargs,p.kwarg.isNone,decide (p.args.map (·.arg)=[("one":Str)])]=true)(i:Str)(body:Expr)(scope:Scope)(g code d v:Value)(S:Setting):peek [] S (bindArgs (kla_fn "<lambda>" i p body scope [] g code d) ⟨[v],[]⟩)=some [(("one":Str),v)]:=by obtain⟨r,c,va,m,k,q,j⟩:=p;have b:=f6 (bj h 0);subst b;have b:=Option.isNone_iff_eq_none.mp (bj h 1);subst b;have b:=f6 (bj h 2);subst b;have b:=Option.isNone_iff_eq_none.mp (bj h 3);subst b;refine n2 (List.map_eq_cons_iff.mp (cf (bj h 4):c.map (·.arg)=[("one":Str)])) λa l f e e2=>B f ?_;have b:=List.map_eq_nil_iff.mp e2;refine B b ?_;obtain⟨n,t⟩:=a;cases(e:n="one");kernel_rfl
theorem YH (b:kN p.defaults=true)(c:kN p.kw_defaults=true):defaultsOf p d=([],[]):=by obtain⟨O,O,O,O,O,O,O⟩:=p;have a:=f6 b;subst a;have a:=f6 c;subst a;rfl
def YI (c:List (Str×GV)) (sc:Scope) (rs:List (Str×Nat)) (f:Pos) (i:Nat) (so b:Str) (params:Arguments) (d:Expr) (a:Scope) (e:Pos):Bool:=
 h6 [fP c sc so (.bi .sorted),decide (rs.lookup b=some i),!(b==("__debug__":Str)),!(b==("__classdict__":Str)),decide (e=f),
  h6 [kN params.posonlyargs,params.vararg.isNone,kN params.kwonlyargs,params.kwarg.isNone,decide (params.args.map (·.arg)=[("one":Str)])],kN params.defaults,kN params.kw_defaults,
  Ey a ["one"] 1 [("one",0)],!a.isCoroutine,!a.isGenerator,a.names.all (λy=>!(y.2==.free)),bu c a [("one",0)] (.bi .len (.cons (.af 0) .nil)) d]
def EF (a:List (Str×GV)) (sc:Scope) (rs:List (Str×Nat)) (d:Pos) (i j:Nat) (e:cS) (s:Stmt):Bool:=Au (λt c b=>h6 [!tL c,k8 a sc rs (.af j) t,LY (YI a sc rs d i) c,f7 a sc rs e b]) s
def LZ (d:List (Str×GV)) (sc:Scope) (rs:List (Str×Nat)) (e:Pos) (i j:Nat) (f g h:PS) (m:cS) (k:PS) (b:List Stmt):Bool:=
 kC (λl=>match l with|[]=>false|a::r=>jf d sc rs f a&&kC (λl=>match l with|[]=>false|a::r=>jf d sc rs g a&&k3 (λa b c=>jf d sc rs h a&&EF d sc rs e i j m b&&jf d sc rs k c) r) r) b
theorem YJ (K:je f d){sc:Scope}{rs:List (Str×Nat)}(E:dJ k e sc)(st:df f k e rs)(L:e.scope.kind=.function)(lo:rj f c P)(AF:e.code=.ref c)
  (ck:LZ d sc rs n i j C s u w v b=true):fy f k e rs (hc+2) false b (AG (aY f) f.ht (hc+2) P n (e.qual++"<lambda>") i j C s u w v):=by
 have z:=λ(p:PS) (t:Stmt) (c:jf d sc rs p t=true)=>(XC K (hc:=hc+2) E st L p false t c);refine xf (C:=λb=>fy f k e rs (hc+2) false b _) ck λq r h=>?_;have G:=V (h:(jf d sc rs C q&&kC (λl=>match l with|[]=>false|a::r=>jf d sc rs s a&&k3 (λa b c=>jf d sc rs u a&&EF d sc rs n i j w b&&jf d sc rs v c) r) r)=true);refine xf (C:=λr=>fy f k e rs (hc+2) false (q::r) _) G.2 λA r h=>?_;have U:=V (h:(jf d sc rs s A&&k3 (λa b c=>jf d sc rs u a&&EF d sc rs n i j w b&&jf d sc rs v c) r)=true);refine DY (C:=λr=>fy f k e rs (hc+2) false (q::A::r) _) U.2 λN a4 a5 h=>?_;have I:=V h;have J:=V I.1;exact tm (z C q G.1) (tm (z s A U.1) (tm (z u N J.1) (tm ((by refine La J.2 λt H D M h=>YF (C:=λH=>tL H=false->Sx f k e rs (hc+2) false (.For t H D [] M) _) (bj h 2) (λso q2 ax q3 params aeV aeW lp q4 q5 l YK=>?_) (cw (bj h 0));have g:=mj (bj l 0);cases(cf (bj l 4):lp=n);exact(Jw st M (λx=>Ap YK e x) (xg K (hc:=hc+2) E st false (.af j) t (bj h 1)) (Dv (target:=t) K.ok (Yv (hc:=hc) (envs:=k) (rs:=rs) (np:=q2) (ap:=q3) (pos:=q5) (kp:=q4) (lpos:=n) (i:=i) K ⟨lo,AF,YG (bj l 5) _ _ _,YH (bj l 6) (bj l 7),Ly (bj l 8),cw (bj l 9),cw (bj l 10),λy m=>nB (bI.mp (bj l 11) y m),bj l 12⟩ (E.kind g.2.1) g.2.2 (K.bi _ _ g.1) (cf (bj l 1)) (cw (bj l 2)) (cw (bj l 3)))) (Lp K (hc:=hc+2) E st L false w D (bj h 3))).imp λρ Q X Y h=>⟨rfl,h⟩)) (tm (z v a5 I.2) Dj))))
def L3 (K:Frag) (d:List (Str×GV)) (a c:Addr) (q:Str) (rs:List (Str×Nat)) (e:Pos) (i j:Nat) (f g h:PS) (l:cS) (k:PS):Bool:=
 Ay K a λb body=>h6 [xi K b [] 6 rs,LZ d b.scope rs e i j f g h l k body,decide ((ri b).length=2),b.code==.ref c,decide (b.qualname=q)]
theorem YL (K:je cx n){rs:List (Str×Nat)}(lo:rj cx c P)(e:L3 cx.K n (cx.c1 f) c q rs w i j x y z H A=true)(k:ml cx.K (cx.c1 f) 2 0)(s:cx.ht f=a+3)
  (h:AG (aY cx) cx.ht (a+2) P w (q++".<locals>."++"<lambda>") i j x y z H A [some u,some v,none,none,none,none] (λm O Y=>match m with|.ret p=>Q p Y|.next=>Q .none Y|_=>False) (λc t O Y=>X c t Y) Y):aY cx false f [u,v] Q X Y:=by
 refine Es e λD G l U body d r t=>?_;cases(cf (bj t 4):l.qualname=q);have F:=EA d r (bj t 0);have g:=cf (bj t 2);have b:oN cx.K (cx.c1 f) 2 0:=k;unfold oN at b;rw[EB d] at b;exact JV K.ok F s (λC L st=>YJ (hc:=a) K ⟨rfl,st.gL⟩ st F.aV.kind lo (bG.mp (bj t 3)) (bj t 1)) (dP:=[]) (j:=0) g.symm b (by rw[g];exact h)
set_option genCtorIdx true
def L4 (c:Cl):Addr:=([39,52,64,76,88,100,112,124,327,384,476,518,634,685,725,817]:List Nat).getD c.i.val 0
noncomputable def rk (f:Fn):Addr:=([131,136,143,150,157,164,169,176,36,190,197,211,218,232,246,253,261,282,289,303,310,317,324,345,352,360,367,374,381,404,412,417,424,429,434,439,444,451,487,494,500,694,828,466,473,515,536,543,550,557]++[564,571,578,585,592,599,606,613,619,626,631,653,661,669,675,682,708,715,722,743,750,755,762,769,776,783,788,795,802,833,840,847,854,861,866,871,876,881,888,895,900,907]:List Nat).getD f.i 0
noncomputable def a6 (f:Fn):Nat:=([1,1,1,1,3,1,3,1,1,1,3,1,1,3,1,1,7,7,7,3,5,5,5,1,9,9,9,9,1,1,3,1,3,1,1,1,5,3,5,7,9,11,1,1,3,1,1,3,11,13]++[7,15,17,19,19,19,15,5,13,17,17,1,25,27,15,13,1,3,5,1,19,15,13,21,21,13,23,15,11,1,1,3,1,1,1,3,19,1,1,21,29,31]:List Nat).getD f.i 1
def rm:List (Str×GV):=[
 (("FILE":Str),GV.gl .O1),
 (("HEX_SIGNS":Str),GV.gl .sv),
 (("LOCK_END":Str),GV.gl .Gx),
 (("REF_STEPS":Str),GV.gl .Gy),
 (("REF_SYMBOL":Str),GV.gl .vy),
 (("REF_BLANKS":Str),GV.gl .yJ),
 (("REF_HEX":Str),GV.gl .Gz),
 (("REF_FORBIDDEN":Str),GV.gl .GA),
 (("REF_ROOT":Str),GV.gl .lP),
 (("REF_HEAD":Str),GV.gl .O2),
 (("REF_PACKED":Str),GV.gl .vz),
 (("REF_TITLE":Str),GV.gl .yK),
 (("REF_TRAITS":Str),GV.gl .GB),
 (("REF_LOGGED":Str),GV.gl .O3),
 (("REF_RULES":Str),GV.gl .BH),
 (("text_of":Str),GV.fn (.qF)),
 (("octets_of":Str),GV.fn (.og)),
 (("hex_of":Str),GV.fn (.sx)),
 (("hex_digit":Str),GV.fn (.vA)),
 (("octets_of_hex":Str),GV.fn (.yL)),
 (("zero_id":Str),GV.fn (.vB)),
 (("disk_parents":Str),GV.fn (.sy)),
 (("disk_join":Str),GV.fn (.vC)),
 (("check_ref_name":Str),GV.fn (.px)),
 (("ref_is_name":Str),GV.fn (.mT)),
 (("ref_is_top":Str),GV.fn (.lQ)),
 (("ref_check":Str),GV.fn (.vF)),
 (("ref_folders":Str),GV.fn (.vG)),
 (("ref_is_logged":Str),GV.fn (.O5)),
 (("ref_candidates":Str),GV.fn (.sC)),
 (("ref_id":Str),GV.fn (.sD)),
 (("ref_octets":Str),GV.fn (.sF)),
 (("ref_packed_octets":Str),GV.fn (.vH)),
 (("ref_packed_row":Str),GV.fn (.yS)),
 (("read_packed":Str),GV.fn (.yT)),
 (("ref_take":Str),GV.fn (.sG)),
 (("ref_by_name":Str),GV.fn (.yU)),
 (("_law_deck":Str),GV.fn (.bK 0)),
 (("_law_draw":Str),GV.fn (.bK 1)),
 (("_law_pick":Str),GV.fn (.bK 2)),
 (("_law_oid":Str),GV.fn (.bK 3)),
 (("_law_pool":Str),GV.fn (.bK 4)),
 (("_law_six":Str),GV.fn (.bK 5)),
 (("_law_short":Str),GV.fn (.bK 6)),
 (("_law_short_right":Str),GV.fn (.bK 7)),
 (("_law_octets":Str),GV.fn (.bK 8)),
 (("_law_end":Str),GV.fn (.bK 9)),
 (("_law_told":Str),GV.fn (.bK 10)),
 (("_law_way_right":Str),GV.fn (.bK 11)),
 (("law":Str),GV.fn (.bK 12)),
 (("GitError":Str),GV.cl .pf),
 (("BadObject":Str),GV.cl .mP),
 (("BadRefName":Str),GV.cl .i8),
 (("RefLocked":Str),GV.cl .vh),
 (("RefMismatch":Str),GV.cl .Gm),
 (("DiskError":Str),GV.cl .vj),
 (("Crash":Str),GV.cl .Gn),
 (("BadState":Str),GV.cl .jx),
 (("Disk":Str),GV.cl .i9),
 (("Lock":Str),GV.cl .oa),
 (("PackedRef":Str),GV.cl .vk),
 (("RefChange":Str),GV.cl .ir),
 (("RefReader":Str),GV.cl .OQ),
 (("RefStore":Str),GV.cl .si),
 (("RefPlan":Str),GV.cl .pg),
 (("RefTransaction":Str),GV.cl .vl),
 (("len":Str),GV.bi .len),
 (("ord":Str),GV.bi .mS),
 (("chr":Str),GV.bi .pq),
 (("bytes":Str),GV.bi .bytes),
 (("str":Str),GV.bi .str),
 (("sorted":Str),GV.bi .sorted),
 (("all":Str),GV.bi .all),
 (("any":Str),GV.bi .any),
 (("int":Str),GV.bi .int),
 (("list":Str),GV.bi .list),
 (("tuple":Str),GV.bi .tuple),
 (("range":Str),GV.range),
 (("enumerate":Str),GV.ja),
 (("isinstance":Str),GV.mi)]
def jg (w:World) (h:Heap):Cx:=⟨PySem.Challenge.pw_nt0310_03,w,K0 w.params,h,L4,rk,a6⟩
theorem YM:∀P,ml (K0 P) (rk .fe) 1 1:=λP=>⟨(λO O O=>cA),(λO O=>cA)⟩
theorem YN:∀P,LF (K0 P) L4 rk rm=true:=λP=>cA
def bA (f:Fn) (e n k:Nat) (dP:List PV) (b:cS):Prop:=∀⦃w:World⦄⦃h:Heap⦄(_:je (jg w h) rm) {q:Bool} {a:List PV} {Q:PV->AH->Prop} {X:XP} {Y:AH} {j:Nat} (_:Ss (aY (jg w h)) a6 e q b (mh n (k+dP.length) (a++dP.drop j)) (λd O Y=>match d with|.ret p=>Q p Y|.next=>Q .none Y|_=>False) (λc t O Y=>X c t Y) Y) (_:a.length=j+k) (_:j<=dP.length),aY (jg w h) q f a Q X Y
noncomputable def bC (l:List String):List (Str×Nat):=l.zipIdx.map λy=>(Str.ofString y.1,y.2)
theorem bD {f:Fn}{a n k:Nat}{dP:List PV}(r:List (Str×Nat)){b:cS}(c:autoParam (∀P,ml (K0 P) (rk f) k dP.length) aB)(d:autoParam (∀P,LA (K0 P) rm (rk f) dP n r (k+dP.length) b=true) aK)(e:autoParam (a6 f=a+1) aR):bA f a n k dP b:=λw h C {q m Q X Y j} l g i=>XN (cx:=jg w h) (f:=f) C (d w.params) e (c w.params) rfl l (g.trans (o8 j k)) i
def cj (Q:PV->AH->Prop) (a:Fl) (_:aP) (Y:AH):Prop:=match a with|.ret p=>Q p Y|.next=>Q .none Y|_=>False
def h8 (X:XP) (c:Cl) (t:PV) (_:aP) (Y:AH):Prop:=X c t Y
inductive Ck (a:jX):Prop
 |mk {w:World} {h:Heap} (C:je (jg w h) rm) (L:rj (jg w h) 870 868) (e:a=aY (jg w h))
theorem aZ {f:Fn}{d n k:Nat}{dP:List PV}{b:cS}(s:bA f d n k dP b){a:jX}(C:Ck a){q:Bool}{c:List PV}{Q:PV->AH->Prop}{X:XP}{Y:AH}{j:Nat}(h:Ss a a6 d q b (mh n (k+dP.length) (c++dP.drop j)) (cj Q) (h8 X) Y)
 (e:autoParam (c.length=j+k) aR) (g:autoParam (j<=dP.length) aL):a q f c Q X Y:=by
 obtain⟨C,O,rfl⟩:=C;exact s C h e g
noncomputable def da.o (l:List PE):da:=l.foldr .cons .nil
noncomputable def cS.o (l:List PS):cS:=l.foldr .cons .nil
noncomputable def fK.o (l:List Tg):fK:=l.foldr .cons .nil
noncomputable def YO:Tg:=.af 0
noncomputable def fQ:Tg:=.af 1
noncomputable def cW:Tg:=.af 2
noncomputable def dg:Tg:=.af 3
noncomputable def fz:Tg:=.af 4
noncomputable def f9:Tg:=.af 5
noncomputable def pZ:Tg:=.af 6
noncomputable def tS:Tg:=.af 7
noncomputable def EG:Tg:=.af 8
noncomputable def AI:Tg:=.af 9
noncomputable def L5:Tg:=.af 10
noncomputable def YQ:Tg:=.af 11
noncomputable def YR:Tg:=.af 12
noncomputable def aeX:Tg:=.af 13
noncomputable def aeY:Tg:=.af 14
noncomputable def ah:PE:=.af 0
noncomputable def aF:PE:=.af 1
noncomputable def ba:PE:=.af 2
noncomputable def bB:PE:=.af 3
noncomputable def cc:PE:=.af 4
noncomputable def cT:PE:=.af 5
noncomputable def gc:PE:=.af 6
noncomputable def jH:PE:=.af 7
noncomputable def qa:PE:=.af 8
noncomputable def tT:PE:=.af 9
noncomputable def xm:PE:=.af 10
noncomputable def YS:PE:=.af 11
noncomputable def aeZ:PE:=.af 12
noncomputable def ae0:PE:=.af 13
noncomputable def ae1:PE:=.af 14
theorem YT:bA (.qF) 0 2 1 [] (.o [.ret (.au (.ab (.str [])) .join (.o [.c4 (.bi .pq (.o [aF])) fQ ah .no]))]):=bD (bC ["octets"])
theorem YU:bA (.og) 0 4 1 [] (.o [.assign fQ (.c4 (.bi .mS (.o [bB])) dg ah .no),.cP cW aF (.o [.a7 (.aM .gt ba (.ab (.int 255))) (.o [.dw .mP (.o [ah])]) .nil]),.ret (.bi .bytes (.o [aF]))]):=bD (bC ["text","numbers","number"])
theorem YV:bA (.sx) 0 3 1 [] (.o [.assign fQ (.list .nil),.cP cW ah (.o [.expr (.au aF .append (.o [.item (.cH .sv) (.bq .vw ba (.ab (.int 4)))])),.expr (.au aF .append (.o [.item (.cH .sv) (.bq .vx ba (.ab (.int 15)))]))]),.ret (.au (.ab (.str [])) .join (.o [aF]))]):=bD (bC ["octets","found","octet"])
theorem YW:bA (.vA) 0 2 1 [] (.o [.assign fQ (.au (.cH .sv) .find (.o [ah])),.a7 (.bV true (.o [.aM .lt aF (.ab (.int 0)),.aM .fI ah (.ab (.str [65,66,67,68,69,70]))])) (.o [.ret (.bq .add (.ab (.int 10)) (.au (.ab (.str [65,66,67,68,69,70])) .find (.o [ah])))]) .nil,.ret (.ite (.aM .ge aF (.ab (.int 0))) aF (.ab .none))]):=bD (bC ["sign","place"])
theorem YX:bA (.yL) 2 5 1 [] (.o [.a7 (.aM .ne (.bq .mod (.bi .len (.o [ah])) (.ab (.int 2))) (.ab (.int 0))) (.o [.dw .mP (.o [ah])]) .nil,.assign fQ (.list .nil),.cP cW (.range (.ab (.int 0)) (.bi .len (.o [ah])) (.ab (.int 2))) (.o [.assign dg (.call .vA (.o [.item ah ba])),.assign fz (.call .vA (.o [.item ah (.bq .add ba (.ab (.int 1)))])),.a7 (.bV false (.o [.aM .iu bB (.ab .none),.aM .iu cc (.ab .none)])) (.o [.dw .mP (.o [ah])]) .nil,.expr (.au aF .append (.o [.bq .add (.bq .mul (.ab (.int 16)) bB) cc]))]),.ret (.bi .bytes (.o [aF]))]):=bD (bC ["text","found","at","high","low"])
theorem YY:bA (.vB) 0 1 1 [] (.o [.ret (.bi .bytes (.o [ah]))]):=bD (bC ["size"])
theorem YZ:bA (.sy) 2 6 1 [] (.o [.assign fQ (.au ah .split (.o [.ab (.bytes [47])])),.a7 (.dF (.bi .all (.o [.c4 (.aM .ne cT (.ab (.bytes []))) f9 aF .no]))) (.o [.dw .vj (.o [ah])]) .nil,.assign (.av (.o [cW,dg])) (.tuple (.o [.list .nil,.ab (.bytes [])])),.cP fz aF (.o [.expr (.au ba .append (.o [.tuple (.o [bB,cc])])),.assign dg (.call .vC (.o [bB,cc]))]),.ret ba]):=bD (bC ["path","parts","found","folder","part"])
theorem Y0:bA (.vC) 0 2 2 [] (.o [.ret (.ite (.aM .eq ah (.ab (.bytes []))) aF (.bq .add (.bq .add ah (.ab (.bytes [47]))) aF))]):=bD (bC ["folder","name"])
theorem Y1:bA (.BI) 0 1 1 [] (.o [.assign (.aj ah .left) (.ab .none),.assign (.aj ah .fa) (.dict .nil),.assign (.aj ah .below) (.dict .nil)]):=bD (bC ["self"])
theorem Y2:bA (.yM) 2 2 2 [] (.o [.ret (.item (.au ah .yW (.o [aF])) (.ab (.int 0)))]):=bD (bC ["self","path"])
theorem Y3:bA (.vD) 0 2 2 [] (.o [.ret (.aM .fI aF (.aj ah .fa))]):=bD (bC ["self","path"])
theorem Y4:bA (.yN) 0 2 2 [] (.o [.ret (.bV false (.o [.aM .eq aF (.ab (.bytes [])),.aM .fI aF (.aj ah .below)]))]):=bD (bC ["self","path"])
theorem Y5:bA (.BJ) 2 7 2 [] (.o [.assign (.av (.o [cW,dg])) (.tuple (.o [.list .nil,.list (.o [aF])])),.vM (.aM .ne bB (.list .nil)) (.o [.assign fz (.au bB .fJ .nil),.cP f9 (.au (.aj ah .below) .get (.o [cc,.dict .nil])) (.o [.assign pZ (.call .vC (.o [cc,cT])),.a7 (.aM .fI gc (.aj ah .fa)) (.o [.expr (.au ba .append (.o [gc]))]) (.o [.expr (.au bB .append (.o [gc]))])])]),.ret (.bi .sorted (.o [ba]))]):=bD (bC ["self","folder","found","waiting","here","name","path"])
theorem Y6:bA (.BL) 0 2 2 [] (.o [.a7 (.aM .su aF (.aj ah .fa)) (.o [.dw .vj (.o [aF])]) .nil,.ret (.item (.aj ah .fa) aF)]):=bD (bC ["self","path"])
theorem Y7:bA (.BM) 0 1 1 [] (.o [.a7 (.aM .gv (.aj ah .left) (.ab .none)) (.o [.a7 (.aM .le (.aj ah .left) (.ab (.int 0))) (.o [.dw .Gn .nil]) .nil,.CB ah .left .sub (.ab (.int 1))]) .nil]):=bD (bC ["self"])
def EH:cS:=.o [.expr (.au ah .Ct (.o [aF])),.expr (.au ah .sH .nil),.expr (.au ah .bh (.o [aF,.d5 ba .no (.bq .fdiv (.bi .len (.o [ba])) (.ab (.int 2))) .no,bB])),.expr (.au ah .sH .nil),.expr (.au ah .bh (.o [aF,ba,bB]))]
theorem L6:bA (.sA) 6 4 3 [.int 33188] EH:=bD (bC ["self","path","octets","mode"]) (λO=>⟨λO O O O O=>cA,λO O O O=>cA⟩)
theorem Y8:bA (.yO) 6 5 3 [] (.o [.assign (.av (.o [dg,fz])) (.au ah .yW (.o [aF])),.a7 (.aM .eq aF ba) (.o [.expr (.au ah .sH .nil),.ret .no]) .nil,.expr (.au ah .Ct (.o [ba])),.expr (.au ah .sH .nil),.expr (.au ah .Cu (.o [aF])),.expr (.au ah .bh (.o [ba,bB,cc]))]):=bD (bC ["self","old","new","octets","mode"])
theorem Y9:bA (.yP) 6 2 2 [] (.o [.expr (.au ah .yW (.o [aF])),.expr (.au ah .sH .nil),.expr (.au ah .Cu (.o [aF]))]):=bD (bC ["self","path"])
theorem Za:bA (.BO) 4 4 2 [] (.o [.a7 (.aM .fI aF (.aj ah .below)) (.o [.dw .vj (.o [aF])]) .nil,.cP (.av (.o [cW,dg])) (.call .sy (.o [aF])) (.o [.a7 (.aM .fI ba (.aj ah .fa)) (.o [.dw .vj (.o [aF])]) .nil])]):=bD (bC ["self","path","folder","name"])
theorem Zb:bA (.yQ) 4 7 4 [] (.o [.a7 (.aM .su aF (.aj ah .fa)) (.o [.cP (.av (.o [fz,f9])) (.call .sy (.o [aF])) (.o [.assign pZ (.au (.aj ah .below) .oh (.o [cc,.dict .nil])),.assign (.item gc cT) (.bq .add (.au gc .get (.o [cT,.ab (.int 0)])) (.ab (.int 1)))])]) .nil,.assign (.item (.aj ah .fa) aF) (.tuple (.o [.bi .bytes (.o [ba]),bB]))]):=bD (bC ["self","path","octets","mode","folder","name","names"])
theorem Zc:bA (.yR) 4 5 2 [] (.o [.expr (.au (.aj ah .fa) .fJ (.o [aF])),.cP (.av (.o [cW,dg])) (.call .sy (.o [aF])) (.o [.assign fz (.item (.aj ah .below) ba),.y5 cc bB .sub (.ab (.int 1)),.a7 (.aM .eq (.item cc bB) (.ab (.int 0))) (.o [.expr (.au cc .fJ (.o [bB]))]) .nil,.a7 (.aM .eq cc (.dict .nil)) (.o [.expr (.au (.aj ah .below) .fJ (.o [ba]))]) .nil])]):=bD (bC ["self","path","folder","name","names"])
theorem Zd:bA (.BP) 0 3 3 [] (.o [.assign (.aj ah .eC) aF,.assign (.aj ah .jU) ba,.assign (.aj ah .pd) (.bq .add ba (.cH .Gx)),.assign (.aj ah .n9) (.ab (.bool false))]):=bD (bC ["self","disk","path"])
theorem Ze:bA (.BQ) 8 1 1 [] (.o [.a7 (.bV false (.o [.au (.aj ah .eC) .has (.o [.aj ah .pd]),.aj ah .n9])) (.o [.dw .vh (.o [.aj ah .jU])]) .nil,.expr (.au (.aj ah .eC) .yX (.o [.aj ah .pd,.ab (.bytes [])])),.assign (.aj ah .n9) (.ab (.bool true))]):=bD (bC ["self"])
theorem Zf:bA (.BR) 8 3 2 [.int 33188] (.o [.expr (.au ah .Cv .nil),.expr (.au (.aj ah .eC) .yX (.o [.aj ah .pd,aF,ba]))]):=bD (bC ["self","octets","mode"]) (λO=>⟨λO O O O=>cA,λO O O=>cA⟩)
theorem Zg:bA (.BS) 8 1 1 [] (.o [.expr (.au ah .Cv .nil),.expr (.au (.aj ah .eC) .GC (.o [.aj ah .pd,.aj ah .jU])),.assign (.aj ah .n9) (.ab (.bool false))]):=bD (bC ["self"])
theorem L7:bA (.vE) 8 1 1 [] (.o [.a7 (.aj ah .n9) (.o [.expr (.au (.aj ah .eC) .yY (.o [.aj ah .pd])),.assign (.aj ah .n9) (.ab (.bool false))]) .nil]):=bD (bC ["self"])
theorem Zh:bA (.BU) 0 1 1 [] (.o [.a7 (.dF (.aj ah .n9)) (.o [.dw .jx (.o [.ab (.str [110,111,32,108,111,99,107])])]) .nil]):=bD (bC ["self"])
def EI:cS:=.o [.a7 (.bV false (.o [.dF (.bi .isStr (.o [ah])),.aM .eq ah (.ab (.str [])),.aM .eq ah (.ab (.str [64])),.aM .eq (.item ah (.neg (.ab (.int 1)))) (.ab (.str [46]))])) (.o [.dw .i8 (.o [ah])]) .nil,.cP cW ah (.o [.assign dg (.bi .mS (.o [ba])),.a7 (.bV false (.o [.aM .lt bB (.ab (.int 33)),.aM .eq bB (.ab (.int 127)),.aM .gt bB (.ab (.int 255)),.aM .fI ba (.cH .GA)])) (.o [.dw .i8 (.o [ah])]) .nil]),.a7 (.bV false (.o [.aM .fI (.ab (.str [46,46])) ah,.aM .fI (.ab (.str [64,123])) ah])) (.o [.dw .i8 (.o [ah])]) .nil,.assign fz (.au ah .split (.o [.ab (.str [47])])),.a7 (.bV true (.o [.aM .eq (.bi .len (.o [cc])) (.ab (.int 1)),.dF aF])) (.o [.dw .i8 (.o [ah])]) .nil,.cP f9 cc (.o [.a7 (.bV false (.o [.aM .eq cT (.ab (.str [])),.aM .eq (.item cT (.ab (.int 0))) (.ab (.str [46])),.aM .eq (.d5 cT (.neg (.ab (.int 5))) .no .no) (.ab (.str [46,108,111,99,107]))])) (.o [.dw .i8 (.o [ah])]) .nil])]
theorem L8:bA (.px) 0 6 1 [.bool false] EI:=bD (bC ["name","one_level","sign","number","parts","part"]) (λO=>⟨λO O O=>cA,λO O=>cA⟩)
theorem Zi:bA (.mT) 2 3 1 [.bool false] (.o [.assign cW (.ab (.bool true)),.qH (.o [.expr (.call .px (.o [ah,aF]))]) (.cons .i8 none (.o [.assign cW (.ab (.bool false))]) .nil),.ret ba]):=bD (bC ["name","one_level","is_fine"]) (λO=>⟨λO O O=>cA,λO O=>cA⟩)
theorem Zj:bA (.lQ) 0 2 1 [] (.o [.a7 (.bV false (.o [.dF (.bi .isStr (.o [ah])),.aM .eq ah (.ab (.str []))])) (.o [.ret (.ab (.bool false))]) .nil,.ret (.bi .all (.o [.c4 (.bV false (.o [.vK .le .le (.ab (.str [65])) aF (.ab (.str [90])),.aM .eq aF (.ab (.str [95]))])) fQ ah .no]))]):=bD (bC ["name"])
theorem Zk:bA (.vF) 2 1 1 [] (.o [.a7 (.call .lQ (.o [ah])) (.o [.ret .no]) .nil,.expr (.call .px (.o [ah])),.a7 (.dF (.au ah .startswith (.o [.cH .lP]))) (.o [.dw .i8 (.o [ah])]) .nil]):=bD (bC ["name"])
theorem Zl:bA (.vG) 0 3 1 [] (.o [.assign fQ (.au ah .split (.o [.ab (.str [47])])),.ret (.c4 (.au (.ab (.str [47])) .join (.o [.d5 aF .no ba .no])) cW (.range (.ab (.int 1)) (.bi .len (.o [aF])) (.ab (.int 1))) .no)]):=bD (bC ["name","parts"])
theorem Zm:bA (.sC) 0 3 1 [] (.o [.ret (.c4 (.bq .add (.bq .add aF ah) ba) (.av (.o [fQ,cW])) (.cH .BH) .no)]):=bD (bC ["text"])
theorem Zn:bA (.sD) 4 2 1 [] (.o [.a7 (.bV false (.o [.aM .eq (.bq .mod (.bi .len (.o [ah])) (.ab (.int 2))) (.ab (.int 1)),.aM .eq ah (.ab (.bytes [])),.dF (.bi .all (.o [.c4 (.aM .fI aF (.cH .Gz)) fQ ah .no]))])) (.o [.ret (.ab .none)]) .nil,.ret (.call .yL (.o [.call .qF (.o [ah])]))]):=bD (bC ["octets"])
theorem L9:bA (.sF) 2 2 2 [] (.o [.a7 (.aM .eq ah (.ab (.str [105,100]))) (.o [.ret (.bq .add (.call .og (.o [.call .sx (.o [aF])])) (.ab (.bytes [10])))]) .nil,.ret (.bq .add (.bq .add (.bq .add (.cH .vy) (.ab (.bytes [32]))) (.call .og (.o [aF]))) (.ab (.bytes [10])))]):=bD (bC ["kind","value"])
def EJ:cS:=.o [.assign (.aj ah .name) aF,.assign (.aj ah .cC) ba,.assign (.aj ah .lM) bB]
theorem Ma:bA (.BV) 0 4 3 [.none] EJ:=bD (bC ["self","name","oid","peeled"]) (λO=>⟨λO O O O O=>cA,λO O O O=>cA⟩)
theorem Zo:bA (.BW) 2 2 1 [] (.o [.assign fQ (.bq .add (.bq .add (.bq .add (.call .og (.o [.call .sx (.o [.aj ah .cC])])) (.ab (.bytes [32]))) (.call .og (.o [.aj ah .name]))) (.ab (.bytes [10]))),.a7 (.aM .gv (.aj ah .lM) (.ab .none)) (.o [.CA 1 .add (.bq .add (.bq .add (.ab (.bytes [94])) (.call .og (.o [.call .sx (.o [.aj ah .lM])]))) (.ab (.bytes [10])))]) .nil,.ret aF]):=bD (bC ["self","found"])
theorem Zp:bA (.vH) 4 3 1 [] (.o [.assign fQ (.list (.o [.bq .add (.bq .add (.cH .yK) (.cH .GB)) (.ab (.bytes [10]))])),.cP cW (.bi .sorted (.o [ah])) (.o [.expr (.au aF .append (.o [.au (.item ah ba) .GD .nil]))]),.ret (.au (.ab (.bytes [])) .join (.o [aF]))]):=bD (bC ["rows","found","name"])
theorem Zq:bA (.yS) 6 5 2 [] (.o [.assign cW (.au ah .find (.o [.ab (.bytes [32])])),.assign dg (.ite (.aM .gt ba (.ab (.int 0))) (.call .sD (.o [.d5 ah .no ba .no])) (.ab .none)),.a7 (.bV false (.o [.aM .iu bB (.ab .none),.bV true (.o [.aM .gv aF (.ab .none),.aM .ne (.bi .len (.o [bB])) aF])])) (.o [.dw .mP (.o [.ab (.str [97,32,114,111,119,32,111,102,32,112,97,99,107,101,100,45,114,101,102,115])])]) .nil,.assign fz (.call .qF (.o [.d5 ah (.bq .add ba (.ab (.int 1))) .no .no])),.a7 (.bV false (.o [.dF (.call .mT (.o [cc])),.dF (.au cc .startswith (.o [.cH .lP]))])) (.o [.dw .i8 (.o [cc])]) .nil,.ret (.fv .vk (.o [cc,bB]))]):=bD (bC ["row","size","at","oid","name"])
theorem Zr:bA (.yT) 8 10 1 [.none] (.o [.a7 (.bV true (.o [.aM .ne ah (.ab (.bytes [])),.aM .ne (.d5 ah (.neg (.ab (.int 1))) .no .no) (.ab (.bytes [10]))])) (.o [.dw .mP (.o [.ab (.str [112,97,99,107,101,100,45,114,101,102,115,32,119,105,116,104,111,117,116,32,97,110,32,101,110,100])])]) .nil,.assign (.av (.o [cW,dg,fz])) (.tuple (.o [.dict .nil,.ab (.bool false),.ab .none])),.cP (.av (.o [f9,pZ])) (.ja (.d5 (.au ah .split (.o [.ab (.bytes [10])])) .no (.neg (.ab (.int 1))) .no)) (.o [.a7 (.aM .eq (.d5 gc .no (.ab (.int 1)) .no) (.ab (.bytes [35]))) (.o [.a7 (.aM .gt cT (.ab (.int 0))) (.o [.dw .mP (.o [.ab (.str [116,114,97,105,116,115,32,111,102,32,112,97,99,107,101,100,45,114,101,102,115,32,98,101,104,105,110,100,32,114,111,119,115])])]) .nil,.assign dg (.bV true (.o [.au gc .startswith (.o [.cH .yK]),.aM .fI (.ab (.bytes [115,111,114,116,101,100])) (.au (.d5 gc (.bi .len (.o [.cH .yK])) .no .no) .split (.o [.ab (.bytes [32])]))]))]) (.o [.a7 (.aM .eq (.d5 gc .no (.ab (.int 1)) .no) (.ab (.bytes [94]))) (.o [.assign tS (.call .sD (.o [.d5 gc (.ab (.int 1)) .no .no])),.a7 (.bV false (.o [.aM .iu cc (.ab .none),.aM .gv (.aj cc .lM) (.ab .none),.aM .iu jH (.ab .none),.aM .ne (.bi .len (.o [jH])) (.bi .len (.o [.aj cc .cC]))])) (.o [.dw .mP (.o [.ab (.str [97,32,112,101,101,108,101,100,32,114,111,119,32,111,102,32,112,97,99,107,101,100,45,114,101,102,115])])]) .nil,.assign (.aj cc .lM) jH]) (.o [.assign EG (.call .yS (.o [gc,aF])),.a7 (.bV true (.o [.aM .gv cc (.ab .none),.bV false (.o [.aM .ne (.bi .len (.o [.aj qa .cC])) (.bi .len (.o [.aj cc .cC])),.bV true (.o [bB,.aM .le (.aj qa .name) (.aj cc .name)])])])) (.o [.dw .mP (.o [.ab (.str [114,111,119,115,32,111,102,32,112,97,99,107,101,100,45,114,101,102,115])])]) .nil,.assign (.item ba (.aj qa .name)) qa,.assign fz qa])])]),.ret (.c4 (.item ba tT) AI (.bi .sorted (.o [ba])) .no)]):=bD (bC ["octets","size","rows","is_sorted","last","number","row","peeled","fresh"]) (λO=>⟨λO O O=>cA,λO O=>cA⟩)
def EK:cS:=.o [.assign (.aj ah .name) aF,.assign (.aj ah .new) ba,.assign (.aj ah .hH) bB,.assign (.aj ah .qE) cc,.assign (.aj ah .BF) cT,.assign (.aj ah .yF) gc]
theorem Mb:bA (.qG) 0 7 3 [.none,.bool false,.str [],.bool true] EK:=bD (bC ["self","name","new","old","is_symbolic","message","deref"]) (λO=>⟨λO O O O O O O O=>cA,λO O O O O O O=>cA,λO O O O O O=>cA,λO O O O O=>cA,λO O O O=>cA⟩)
theorem Zs:bA (.BX) 2 3 2 [] (.o [.assign cW (.call .og (.o [aF])),.ret (.ite (.aM .ne (.aj ah .kP) (.ab (.bytes []))) (.bq .add (.bq .add (.aj ah .kP) (.ab (.bytes [47]))) ba) ba)]):=bD (bC ["self","name","octets"])
theorem Zt:bA (.BY) 10 2 1 [] (.o [.assign fQ (.au ah .mU (.o [.cH .vz])),.a7 (.bV false (.o [.au (.aj ah .eC) .vI (.o [aF]),.dF (.au (.aj ah .eC) .has (.o [aF]))])) (.o [.ret (.list .nil)]) .nil,.ret (.call .yT (.o [.au (.aj ah .eC) .Cs (.o [aF]),.aj ah .size]))]):=bD (bC ["self","path"])
theorem Zu:bA (.BZ) 12 3 2 [] (.o [.cP cW (.au ah .yZ .nil) (.o [.a7 (.aM .eq (.aj ba .name) aF) (.o [.ret ba]) .nil]),.ret (.ab .none)]):=bD (bC ["self","name","row"])
theorem Zv:bA (.B0) 6 7 2 [] (.o [.assign cW (.au ah .mU (.o [aF])),.a7 (.bV false (.o [.au (.aj ah .eC) .vI (.o [ba]),.dF (.au (.aj ah .eC) .has (.o [ba]))])) (.o [.ret (.ab .none)]) .nil,.assign dg (.au (.aj ah .eC) .Cs (.o [ba])),.a7 (.au bB .startswith (.o [.cH .vy])) (.o [.assign fz (.call .qF (.o [.au (.d5 bB (.bi .len (.o [.cH .vy])) .no .no) .mV (.o [.cH .yJ])])),.a7 (.dF (.bV false (.o [.call .lQ (.o [cc]),.bV true (.o [.call .mT (.o [cc]),.au cc .startswith (.o [.cH .lP])])]))) (.o [.dw .jx (.o [aF])]) .nil,.ret (.tuple (.o [.ab (.str [115,121,109]),cc]))]) .nil,.assign f9 (.bq .mul (.ab (.int 2)) (.aj ah .size)),.assign pZ (.ite (.aM .ge (.bi .len (.o [bB])) cT) (.call .sD (.o [.d5 bB .no cT .no])) (.ab .none)),.a7 (.bV false (.o [.aM .iu gc (.ab .none),.aM .ne (.au (.d5 bB cT .no .no) .mV (.o [.cH .yJ])) (.ab (.bytes []))])) (.o [.dw .jx (.o [aF])]) .nil,.ret (.tuple (.o [.ab (.str [105,100]),gc]))]):=bD (bC ["self","name","path","octets","target","many","oid"])
theorem Zw:bA (.B1) 14 4 2 [] (.o [.expr (.call .px (.o [aF,.ab (.bool true)])),.a7 (.bV true (.o [.dF (.call .lQ (.o [aF])),.dF (.au aF .startswith (.o [.cH .lP]))])) (.o [.ret (.ab .none)]) .nil,.assign cW (.au ah .loose (.o [aF])),.a7 (.bV false (.o [.aM .gv ba (.ab .none),.call .lQ (.o [aF])])) (.o [.ret ba]) .nil,.assign dg (.au ah .Cw (.o [aF])),.ret (.ite (.aM .iu bB (.ab .none)) (.ab .none) (.tuple (.o [.ab (.str [105,100]),.aj bB .cC])))]):=bD (bC ["self","name","found","row"])
theorem Zx:bA (.B2) 16 6 2 [] (.o [.assign (.av (.o [cW,dg])) (.tuple (.o [.list (.o [aF]),aF])),.cP fz (.range (.ab (.int 0)) (.bq .add (.cH .Gy) (.ab (.int 1))) (.ab (.int 1))) (.o [.assign f9 (.au ah .raw (.o [bB])),.a7 (.aM .iu cT (.ab .none)) (.o [.ret (.tuple (.o [ba,.ab .none]))]) .nil,.a7 (.aM .eq (.item cT (.ab (.int 0))) (.ab (.str [105,100]))) (.o [.ret (.tuple (.o [ba,.item cT (.ab (.int 1))]))]) .nil,.assign dg (.item cT (.ab (.int 1))),.expr (.au ba .append (.o [bB]))]),.dw .jx (.o [aF])]):=bD (bC ["self","name","names","last","step","found"])
theorem Zy:bA (.B3) 18 4 2 [] (.o [.assign (.av (.o [cW,dg])) (.au ah .sJ (.o [aF])),.ret (.tuple (.o [.item ba (.neg (.ab (.int 1))),bB]))]):=bD (bC ["self","name","names","oid"])
theorem Zz:bA (.B4) 18 2 2 [] (.o [.ret (.item (.au ah .sJ (.o [aF])) (.ab (.int 1)))]):=bD (bC ["self","name"])
theorem ZA:bA (.B5) 18 3 2 [] (.o [.assign cW (.tuple (.o [.list .nil,.ab .none])),.qH (.o [.assign cW (.au ah .sJ (.o [aF]))]) (.cons .jx none (.o [.assign cW (.tuple (.o [.list .nil,.ab .none]))]) .nil),.ret ba]):=bD (bC ["self","name","found"])
theorem ZC:bA (.B6) 14 2 2 [] (.o [.a7 (.dF (.bV false (.o [.call .lQ (.o [aF]),.bV true (.o [.call .mT (.o [aF]),.au aF .startswith (.o [.cH .lP])])]))) (.o [.ret (.ab (.bool false))]) .nil,.ret (.bV false (.o [.au (.aj ah .eC) .has (.o [.au ah .mU (.o [aF])]),.aM .gv (.au ah .Cw (.o [aF])) (.ab .none)]))]):=bD (bC ["self","name"])
theorem ZD:bA (.B7) 4 5 1 [] (.o [.assign (.av (.o [fQ,cW])) (.tuple (.o [.list .nil,.au ah .mU (.o [.ab (.str [114,101,102,115])])])),.a7 (.dF (.au (.aj ah .eC) .vI (.o [ba]))) (.o [.ret aF]) .nil,.cP dg (.au (.aj ah .eC) .yi (.o [ba])) (.o [.assign fz (.bq .add (.cH .lP) (.call .qF (.o [.d5 bB (.bq .add (.bi .len (.o [ba])) (.ab (.int 1))) .no .no]))),.a7 (.call .mT (.o [cc])) (.o [.expr (.au aF .append (.o [cc]))]) .nil]),.ret (.bi .sorted (.o [aF]))]):=bD (bC ["self","found","base","path","name"])
theorem ZE:bA (.B8) 12 6 1 [.str [114,101,102,115,47]] (.o [.assign cW (.dict .nil),.cP dg (.au ah .yZ .nil) (.o [.assign (.item ba (.aj bB .name)) (.ab (.bool true))]),.cP fz (.au ah .Cz .nil) (.o [.assign (.item ba cc) (.ab (.bool true))]),.ret (.c4 cT f9 (.bi .sorted (.o [ba])) (.au cT .startswith (.o [aF])))]):=bD (bC ["self","prefix","found","row","name"]) (λO=>⟨λO O O=>cA,λO O=>cA⟩)
theorem ZF:bA (.B9) 16 8 2 [] (.o [.cP (.av (.o [cW,dg])) (.d5 (.cH .BH) .no (.ab (.int 0)) (.neg (.ab (.int 1)))) (.o [.assign fz (.bq .sub (.bq .sub (.bi .len (.o [aF])) (.bi .len (.o [ba]))) (.bi .len (.o [bB]))),.a7 (.bV true (.o [.aM .gt cc (.ab (.int 0)),.au aF .startswith (.o [ba]),.au aF .endswith (.o [bB])])) (.o [.assign f9 (.d5 aF (.bi .len (.o [ba])) (.bq .add (.bi .len (.o [ba])) cc) .no),.assign pZ (.c4 jH tS (.call .sC (.o [cT])) (.bV true (.o [.aM .ne jH aF,.au ah .has (.o [jH])]))),.a7 (.aM .eq gc (.list .nil)) (.o [.ret cT]) .nil]) .nil]),.ret aF]):=bD (bC ["self","name","before","behind","size","text","others"])
theorem ZG:bA (.Ca) 0 5 4 [.none] (.o [.assign (.av (.o [.aj ah .eC,.aj ah .kP,.aj ah .size])) (.tuple (.o [aF,ba,bB])),.assign (.aj ah .yG) cc]):=bD (bC ["self","disk","folder","size","logs"]) (λO=>⟨λO O O O O O=>cA,λO O O O O=>cA⟩)
theorem ZH:bA (.jV) 24 4 2 [.none] (.o [.assign dg (.fv .vl (.o [ah,aF])),.expr (.au bB .GP .nil),.expr (.au bB .sI .nil),.a7 (.bV true (.o [.aM .gv (.aj ah .yG) (.ab .none),.aM .gv ba (.ab .none)])) (.o [.expr .pA]) .nil]):=bD (bC ["self","changes","person","transaction"]) (λO=>⟨λO O O O=>cA,λO O O=>cA⟩)
theorem ZI:bA (.Cb) 26 5 3 [.none,.str []] (.o [.expr (.au ah .apply (.o [.list (.o [.fv .ir (.o [aF,ba,.ab .none,.ab (.bool true),cc,.ab (.bool false)])]),bB]))]):=bD (bC ["self","name","target","person","message"]) (λO=>⟨λO O O O O O=>cA,λO O O O O=>cA,λO O O O=>cA⟩)
theorem ZJ:bA (.Cc) 14 13 1 [.bool false,.none] (.o [.assign dg (.fv .oa (.o [.aj ah .eC,.au ah .mU (.o [.cH .vz])])),.a7 (.dF (.call .sG (.o [bB]))) (.o [.dw .vh (.o [.cH .vz])]) .nil,.assign (.av (.o [fz,f9])) (.tuple (.o [.dict .nil,.list .nil])),.sL (.o [.cP pZ (.au ah .yZ .nil) (.o [.assign (.item cc (.aj gc .name)) gc]),.cP tS (.au ah .Cz .nil) (.o [.assign EG (.au ah .loose (.o [jH])),.a7 (.bV true (.o [.aM .eq (.item qa (.ab (.int 0))) (.ab (.str [105,100])),.bV false (.o [aF,.aM .fI jH cc,.au jH .startswith (.o [.ab (.str [114,101,102,115,47,116,97,103,115,47])])])])) (.o [.expr (.au cT .append (.o [.tuple (.o [jH,.item qa (.ab (.int 1))])]))]) .nil]),.cP (.av (.o [tS,AI])) cT (.o [.assign L5 (.ite (.aM .gv ba (.ab .none)) .pA (.ab .none)),.assign (.item cc jH) (.fv .vk (.o [jH,tT,.ite (.aM .ne xm tT) xm (.ab .none)]))]),.a7 (.aM .ne cT (.list .nil)) (.o [.expr (.au bB .dA (.o [.call .vH (.o [cc])])),.expr (.au bB .sI .nil)]) .nil]) (.o [.expr (.au bB .drop .nil)]),.cP (.av (.o [tS,AI])) cT (.o [.expr (.au ah .GI (.o [jH,tT]))]),.ret (.c4 YS (.av (.o [YQ,YR])) cT .no)]):=bD (bC ["self","everything","peel","lock","rows","chosen","row","name","found","oid","end"]) (λO=>⟨λO O O O=>cA,λO O O=>cA,λO O=>cA⟩)
theorem ZK:bA (.Ce) 12 4 3 [] (.o [.assign dg (.fv .oa (.o [.aj ah .eC,.au ah .mU (.o [aF])])),.a7 (.call .sG (.o [bB])) (.o [.a7 (.aM .eq (.au ah .loose (.o [aF])) (.tuple (.o [.ab (.str [105,100]),ba]))) (.o [.expr (.au (.aj ah .eC) .yY (.o [.au ah .mU (.o [aF])]))]) .nil,.expr (.au bB .drop .nil)]) .nil]):=bD (bC ["self","name","oid","lock"])
theorem ZL:bA (.sG) 10 2 1 [] (.o [.assign fQ (.ab (.bool true)),.qH (.o [.expr (.au ah .take .nil)]) (.cons .vh none (.o [.assign fQ (.ab (.bool false))]) .nil),.ret aF]):=bD (bC ["lock","is_taken"])
theorem ZM:bA (.yV) 0 4 4 [] (.o [.assign (.aj ah .change) aF,.assign (.aj ah .name) ba,.assign (.aj ah .du) bB,.assign (.aj ah .ve) (.ab .none),.assign (.aj ah .b9) (.ab .none),.assign (.aj ah .jw) (.ab .none)]):=bD (bC ["self","change","name","via"])
theorem ZN:bA (.Cf) 2 2 2 [] (.o [.ret (.bV true (.o [.dF (.aj (.aj ah .change) .qE),.aM .eq (.aj (.aj ah .change) .new) (.call .vB (.o [aF]))]))]):=bD (bC ["self","size"])
theorem ZO:bA (.Cg) 4 2 2 [] (.o [.ret (.bV true (.o [.aM .gv (.aj (.aj ah .change) .new) (.ab .none),.dF (.au ah .y3 (.o [aF]))]))]):=bD (bC ["self","size"])
theorem ZP:bA (.Ci) 0 3 3 [] (.o [.assign (.aj ah .iN) aF,.assign (.aj ah .yH) ba,.assign (.aj ah .lN) (.list .nil),.assign (.aj ah .fm) (.list .nil),.assign (.aj ah .pe) (.ab .none)]):=bD (bC ["self","store","changes"])
theorem ZQ:bA (.Cj) 18 4 2 [] (.o [.expr (.call .vF (.o [.aj aF .name])),.a7 (.aj aF .qE) (.o [.expr (.call .vF (.o [.aj aF .new]))]) (.o [.a7 (.bV true (.o [.aM .gv (.aj aF .new) (.ab .none),.aM .ne (.bi .len (.o [.aj aF .new])) (.aj (.aj ah .iN) .size)])) (.o [.dw .mP (.o [.aj aF .new])]) .nil]),.a7 (.bV false (.o [.aj aF .qE,.dF (.aj aF .yF)])) (.o [.ret (.fv .pg (.o [aF,.aj aF .name,.list .nil]))]) .nil,.assign (.av (.o [cW,dg])) (.au (.aj ah .iN) .sJ (.o [.aj aF .name])),.ret (.fv .pg (.o [aF,.item ba (.neg (.ab (.int 1))),.d5 ba .no (.neg (.ab (.int 1))) .no]))]):=bD (bC ["self","change","names","oid"])
theorem ZR:bA (.Cm) 14 11 1 [] (.o [.assign fQ (.aj (.aj ah .iN) .size),.assign cW (.dict .nil),.cP dg (.aj ah .lN) (.o [.a7 (.aM .fI (.aj bB .name) ba) (.o [.dw .i8 (.o [.aj bB .name])]) .nil,.assign (.item ba (.aj bB .name)) (.au bB .vJ (.o [aF]))]),.assign fz (.dict .nil),.cP f9 (.au (.aj ah .iN) .names .nil) (.o [.assign (.item cc cT) (.ab (.bool true))]),.assign pZ (.dict .nil),.cP f9 (.bq .add (.bi .sorted (.o [cc])) (.c4 tT AI (.bi .sorted (.o [ba])) (.item ba tT))) (.o [.cP tS (.call .vG (.o [cT])) (.o [.assign (.item gc jH) (.ab (.bool true))])]),.cP f9 (.bi .sorted (.o [ba])) (.o [.a7 (.aM .su cT cc) (.o [.assign EG (.c4 xm L5 (.call .vG (.o [cT])) (.bV false (.o [.aM .fI xm cc,.au ba .get (.o [xm,.ab (.bool false)])]))),.a7 (.bV false (.o [.aM .ne qa (.list .nil),.bV true (.o [.item ba cT,.aM .fI cT gc])])) (.o [.dw .i8 (.o [cT])]) .nil]) .nil])]):=bD (bC ["self","size","fresh","plan","every","name","folders","folder","within"])
theorem ZS:bA (.Cn) 12 5 3 [] (.o [.assign dg (.au (.aj ah .iN) .mU (.o [aF])),.assign fz (.fv .oa (.o [.aj (.aj ah .iN) .eC,bB])),.a7 (.bV false (.o [.bV true (.o [ba,.au (.aj (.aj ah .iN) .eC) .vI (.o [bB])]),.dF (.call .sG (.o [cc]))])) (.o [.dw .vh (.o [aF])]) .nil,.expr (.au (.aj ah .fm) .append (.o [cc])),.ret cc]):=bD (bC ["self","name","is_written","path","lock"])
theorem ZT:bA (.Co) 20 6 2 [] (.o [.assign (.av (.o [cW,dg])) (.tuple (.o [.aj ah .iN,.aj (.aj aF .change) .hH])),.assign fz (.au ba .raw (.o [.aj aF .name])),.assign (.aj aF .ve) (.item (.au ba .Cy (.o [.aj aF .name])) (.ab (.int 1))),.a7 (.aM .iu bB (.ab .none)) (.o [.assign f9 (.ab (.bool true))]) (.o [.a7 (.bi .isStr (.o [bB])) (.o [.assign f9 (.aM .eq cc (.tuple (.o [.ab (.str [115,121,109]),bB])))]) (.o [.a7 (.aM .eq bB (.call .vB (.o [.aj ba .size]))) (.o [.assign f9 (.aM .iu cc (.ab .none))]) (.o [.assign f9 (.aM .eq (.aj aF .ve) bB)])])]),.a7 (.dF cT) (.o [.dw .Gm (.o [.aj aF .name])]) .nil]):=bD (bC ["self","plan","store","old","raw","is_fine"])
theorem ZU:bA (.Cp) 20 2 2 [] (.o [.a7 (.aj (.aj aF .change) .qE) (.o [.expr (.au (.aj aF .jw) .dA (.o [.call .sF (.o [.ab (.str [115,121,109]),.aj (.aj aF .change) .new])])),.assign (.aj aF .b9) (.item (.au (.aj ah .iN) .Cy (.o [.aj (.aj aF .change) .new])) (.ab (.int 1)))]) (.o [.expr (.au (.aj aF .jw) .dA (.o [.call .sF (.o [.ab (.str [105,100]),.aj (.aj aF .change) .new])])),.assign (.aj aF .b9) (.aj (.aj aF .change) .new)])]):=bD (bC ["self","plan"])
theorem ZV:bA (.Cq) 22 6 1 [] (.o [.assign (.av (.o [fQ,cW])) (.tuple (.o [.aj (.aj ah .iN) .size,.ab (.bool false)])),.assign (.aj ah .lN) (.call .yU (.o [.c4 (.au ah .GJ (.o [cc])) fz (.aj ah .yH) .no])),.expr (.au ah .GK .nil),.sL (.o [.cP dg (.aj ah .lN) (.o [.assign (.aj bB .jw) (.au ah .take (.o [.aj bB .name,.au bB .vJ (.o [aF])]))]),.a7 (.aM .ne (.c4 cT f9 (.aj ah .lN) (.au cT .y3 (.o [aF]))) (.list .nil)) (.o [.assign (.aj ah .pe) (.au ah .take (.o [.cH .vz,.ab (.bool false)]))]) .nil,.cP dg (.aj ah .lN) (.o [.expr (.au ah .GL (.o [bB]))]),.cP dg (.aj ah .lN) (.o [.a7 (.au bB .vJ (.o [aF])) (.o [.expr (.au ah .GN (.o [bB]))]) .nil]),.assign cW (.ab (.bool true))]) (.o [.a7 (.dF ba) (.o [.expr (.au ah .GQ .nil)]) .nil])]):=bD (bC ["self","size","is_ready","plan"])
theorem ZW:bA (.Cr) 14 6 1 [] (.o [.assign (.av (.o [fQ,cW])) (.tuple (.o [.aj (.aj ah .iN) .size,.aj (.aj ah .iN) .eC])),.cP dg (.aj ah .lN) (.o [.a7 (.au bB .vJ (.o [aF])) (.o [.expr (.au (.aj bB .jw) .sI .nil)]) (.o [.a7 (.aM .iu (.aj (.aj bB .change) .new) (.ab .none)) (.o [.expr (.au (.aj bB .jw) .drop .nil)]) .nil])]),.a7 (.aM .gv (.aj ah .pe) (.ab .none)) (.o [.assign fz (.au ah .GO .nil),.a7 (.aM .iu cc (.ab .none)) (.o [.expr (.au (.aj ah .pe) .drop .nil)]) (.o [.expr (.au (.aj ah .pe) .dA (.o [.call .vH (.o [cc])])),.expr (.au (.aj ah .pe) .sI .nil)])]) .nil,.cP dg (.aj ah .lN) (.o [.a7 (.au bB .y3 (.o [aF])) (.o [.assign f9 (.au (.aj ah .iN) .mU (.o [.aj bB .name])),.a7 (.au ba .has (.o [cT])) (.o [.expr (.au ba .yY (.o [cT]))]) .nil,.expr (.au (.aj bB .jw) .drop .nil)]) .nil]),.assign (.aj ah .fm) (.list .nil)]):=bD (bC ["self","size","disk","plan","rows","path"])
theorem ZX:bA (.yU) 0 5 1 [] (.o [.assign fQ (.dict .nil),.cP cW ah (.o [.assign (.item aF (.aj ba .name)) (.bq .add (.au aF .get (.o [.aj ba .name,.list .nil])) (.list (.o [ba])))]),.assign dg (.list .nil),.cP fz (.bi .sorted (.o [aF])) (.o [.expr (.au bB .pz (.o [.item aF cc]))]),.ret bB]):=bD (bC ["plans","by_name","plan","found","name"])
theorem ZY:bA (.bK 0) 0 5 1 [] (.o [.assign (.av (.o [.af 1,.af 2])) (.tuple (.o [.c4 (.bi .int (.o [.af 4])) (.af 4) (.d5 (.af 0) .no (.ab (.int 24)) .no) .no,.ab (.int 7373)])),.cP (.af 3) (.af 1) (.o [.assign (.af 2) (.bq .mod (.bq .add (.bq .add (.bq .mul (.af 2) (.ab (.int 48271))) (.bq .mod (.af 3) (.ab (.int 2147483629)))) (.ab (.int 7373))) (.ab (.int 2147483587)))]),.ret (.dict (.cons (.ab (.str [99,101,108,108,115])) (.d5 (.af 1) .no .no (.neg (.ab (.int 1)))) (.cons (.ab (.str [109,105,120,101,100])) (.af 2) (.cons (.ab (.str [116,117,114,110])) (.ab (.int 0)) .nil))))]):=bD (bC ["script","cells","mixed","cell"])
theorem ZZ:bA (.bK 1) 0 4 2 [] (.o [.assign (.item ah (.ab (.str [116,117,114,110]))) (.bq .add (.item ah (.ab (.str [116,117,114,110]))) (.ab (.int 1))),.assign cW (.bq .add (.item ah (.ab (.str [109,105,120,101,100]))) (.bq .mul (.bq .mul (.ab (.int 61613)) (.item ah (.ab (.str [116,117,114,110])))) (.item ah (.ab (.str [116,117,114,110]))))),.a7 (.aM .ne (.item ah (.ab (.str [99,101,108,108,115]))) (.list .nil)) (.o [.assign dg (.au (.item ah (.ab (.str [99,101,108,108,115]))) .fJ .nil),.a7 (.aM .ge bB (.ab (.int 1000000))) (.o [.expr (.au (.item ah (.ab (.str [99,101,108,108,115]))) .append (.o [.bq .fdiv bB aF])),.ret (.bq .mod bB aF)]) .nil,.assign cW (.bq .add ba (.bq .mod bB (.ab (.int 2147483563))))]) .nil,.assign cW (.bq .mod (.bq .mul (.bq .mod ba (.ab (.int 2147483629))) (.ab (.int 40692))) (.ab (.int 2147483647))),.assign cW (.bq .mod (.bq .add (.bq .mul ba ba) (.ab (.int 1867))) (.ab (.int 2147483587))),.ret (.bq .mod (.bq .fdiv (.bq .mod (.bq .mul ba (.ab (.int 39373))) (.ab (.int 2147483579))) (.ab (.int 64))) aF)]):=bD (bC ["deck","below","figure","cell"])
theorem Z0:bA (.bK 2) 2 2 2 [] (.o [.ret (.item aF (.call (.bK 1) (.o [ah,.bi .len (.o [aF])])))]):=bD (bC ["deck","some"])
theorem Z1:bA (.bK 3) 0 1 1 [] (.o [.ret (.ite (.aM .eq ah (.ab (.int 0))) (.bi .bytes (.o [.list (.o [.ab (.int 0),.ab (.int 0),.ab (.int 0),.ab (.int 0)])])) (.bi .bytes (.o [.list (.o [.ab (.int 0),.ab (.int 7),.ab (.int 1),ah])])))]):=bD (bC ["number"])
theorem Z2:bA (.bK 4) 0 1 0 [] (.o [.assign YO (.list (.o [.ab (.str [114,101,102,115,47,104,101,97,100,115,47,97]),.ab (.str [114,101,102,115,47,116,97,103,115,47,97]),.ab (.str [114,101,102,115,47,114,101,109,111,116,101,115,47,97,47,72,69,65,68]),.ab (.str [114,101,102,115,47,114,101,109,111,116,101,115,47,111,47,97]),.ab (.str [114,101,102,115,47,104,101,97,100,115,47,111,47,97]),.ab (.str [114,101,102,115,47,116,97,103,115,47,104,101,97,100,115,47,97])])),.ret (.bq .add ah (.list (.o [.ab (.str [114,101,102,115,47,111,47,97]),.ab (.str [114,101,102,115,47,104,101,97,100,115,47,104,101,97,100,115,47,97]),.ab (.str [72,69,65,68])])))]):=bD (bC ["some"])
theorem Z3:bA (.bK 5) 0 2 1 [] (.o [.ret (.bq .add (.bq .add (.list (.o [ah])) (.c4 (.bq .add (.bq .add (.ab (.str [114,101,102,115,47])) aF) ah) fQ (.tuple (.o [.ab (.str []),.ab (.str [116,97,103,115,47]),.ab (.str [104,101,97,100,115,47]),.ab (.str [114,101,109,111,116,101,115,47])])) .no)) (.list (.o [.bq .add (.bq .add (.ab (.str [114,101,102,115,47,114,101,109,111,116,101,115,47])) ah) (.ab (.str [47,72,69,65,68]))])))]):=bD (bC ["text"])
def tU:PS:=(.assign cW (.list .nil))
def tV:PS:=(.cP (.af 3) (.tuple (.cons (.ab (.str [114,101,102,115,47])) (.cons (.ab (.str [114,101,102,115,47,116,97,103,115,47])) (.cons (.ab (.str [114,101,102,115,47,104,101,97,100,115,47])) (.cons (.ab (.str [114,101,102,115,47,114,101,109,111,116,101,115,47])) .nil))))) (.cons (.a7 (.aM .eq (.d5 (.af 1) .no (.bi .len (.cons (.af 3) .nil)) .no) (.af 3)) (.cons (.expr (.au (.af 2) .append (.cons (.d5 (.af 1) (.bi .len (.cons (.af 3) .nil)) .no .no) .nil)))
 .nil) .nil)
 .nil))
def oO:PS:=(.a7 (.bV true (.cons (.aM .eq (.d5 (.af 1) .no (.ab (.int 13)) .no) (.ab (.str [114,101,102,115,47,114,101,109,111,116,101,115,47]))) (.cons (.aM .eq (.d5 (.af 1) (.neg (.ab (.int 5))) .no .no) (.ab (.str [47,72,69,65,68]))) .nil))) (.cons (.expr (.au (.af 2) .append (.cons (.d5 (.af 1) (.ab (.int 13)) (.neg (.ab (.int 5))) .no) .nil)))
 .nil) .nil)
def xn:PS:=(.ret aF)
def xo:cS:=(.cons (.a7 (.aM .eq (.c4 (.af 5) (.af 5) (.call (.bK 5) (.cons (.af 4) .nil)) (.bV true (.cons (.aM .ne (.af 5) (.af 1)) (.cons (.aM .fI (.af 5) (.af 0)) .nil)))) (.list .nil)) (.cons (.ret (.af 4))
 .nil) .nil)
 .nil)
noncomputable def jI:Pos:=⟨699,33,699,53⟩
theorem Z4:∀P,L3 (K0 P) rm (rk (.bK 6)) 870 "_law_short" (bC ["there","name","some","part","text"]) jI 2 4 tU tV oO xo xn=true:=λP=>cA
theorem Z5:∀P,ml (K0 P) (rk (.bK 6)) 2 0:=λP=>(λO O O=>cA)
theorem Z6:bA (.bK 7) 18 7 3 [] (.o [.assign dg (.call (.bK 2) (.o [ah,.call (.bK 4) .nil])),.assign fz (.au aF .GH (.o [bB])),.a7 (.bV false (.o [.aM .ne cc (.call (.bK 6) (.o [ba,bB])),.aM .ne (.bi .list (.o [.call .sC (.o [cc])])) (.call (.bK 5) (.o [cc]))])) (.o [.ret (.ab (.bool false))]) .nil,.assign f9 (.c4 gc pZ (.call .sC (.o [cc])) (.au aF .has (.o [gc]))),.ret (.aM .eq cT (.ite (.aM .fI bB ba) (.list (.o [bB])) (.list .nil)))]):=bD (bC ["deck","refs","there","name","text","met"])
theorem Z7:bA (.bK 8) 0 2 1 [] (.o [.ret (.bi .bytes (.o [.c4 (.bi .mS (.o [aF])) fQ ah .no]))]):=bD (bC ["text"])
theorem Z8:bA (.bK 9) 0 3 2 [] (.o [.assign cW (.list (.o [aF])),.vM (.bV true (.o [.aM .fI (.item ba (.neg (.ab (.int 1)))) ah,.aM .eq (.item (.item ah (.item ba (.neg (.ab (.int 1))))) (.ab (.int 0))) (.ab (.str [115,121,109]))])) (.o [.a7 (.aM .gt (.bi .len (.o [ba])) (.ab (.int 5))) (.o [.ret (.ab .none)]) .nil,.expr (.au ba .append (.o [.item (.item ah (.item ba (.neg (.ab (.int 1))))) (.ab (.int 1))]))]),.ret (.tuple (.o [ba,.ite (.aM .fI (.item ba (.neg (.ab (.int 1)))) ah) (.item (.item ah (.item ba (.neg (.ab (.int 1))))) (.ab (.int 1))) (.ab .none)]))]):=bD (bC ["row","first","found"])
theorem Z9:bA (.bK 10) 20 6 2 [] (.o [.qH (.o [.assign (.av (.o [cW,dg])) (.au ah .sJ (.o [aF]))]) (.cons .jx (some 4) (.o [.ret (.aj cc .dp)]) .nil),.assign f9 (.bi .tuple (.o [.au ah .GF (.o [aF])])),.ret (.ite (.bV true (.o [.aM .eq cT (.tuple (.o [.item ba (.neg (.ab (.int 1))),bB])),.aM .eq (.au ah .GG (.o [aF])) bB])) (.tuple (.o [.bi .list (.o [ba]),bB])) (.ab .none))]):=bD (bC ["refs","name","way","oid","e","last"])
def nG:cS:=.o [.assign (.av (.o [.af 2,.af 3,.af 4])) (.tuple (.o [.call (.bK 1) (.o [.af 0,.ab (.int 9)]),.call (.bK 1) (.o [.af 0,.ab (.int 3)]),.dict .nil])),.assign (.af 5) (.c4 (.bq .add (.ab (.str [114,101,102,115,47,115,47,120])) (.bi .str (.o [.af 13]))) (.af 13) (.range (.ab (.int 0)) (.bq .add (.af 2) (.ab (.int 1))) (.ab (.int 1))) .no),.cP (.af 6) (.range (.ab (.int 0)) (.af 2) (.ab (.int 1))) (.o [.assign (.item (.af 4) (.item (.af 5) (.af 6))) (.tuple (.o [.ab (.str [115,121,109]),.item (.af 5) (.bq .add (.af 6) (.ab (.int 1)))]))]),.a7 (.aM .eq (.af 3) (.ab (.int 0))) (.o [.assign (.item (.af 4) (.item (.af 5) (.af 2))) (.tuple (.o [.ab (.str [105,100]),.call (.bK 3) (.o [.ab (.int 3)])]))]) .nil,.a7 (.bV true (.o [.aM .eq (.af 3) (.ab (.int 2)),.aM .gt (.af 2) (.ab (.int 1))])) (.o [.assign (.item (.af 4) (.item (.af 5) (.bq .sub (.af 2) (.ab (.int 1))))) (.tuple (.o [.ab (.str [115,121,109]),.item (.af 5) (.ab (.int 0))]))]) .nil,.assign (.af 7) (.fv .si (.o [.af 1,.ab (.bytes [46,103,105,116]),.ab (.int 4)])),.cP (.af 8) (.af 4) (.o [.a7 (.bV true (.o [.aM .eq (.item (.item (.af 4) (.af 8)) (.ab (.int 0))) (.ab (.str [115,121,109])),.aM .lt (.af 2) (.ab (.int 6))])) (.o [.expr (.au (.af 7) .y1 (.o [.af 8,.item (.item (.af 4) (.af 8)) (.ab (.int 1))]))]) (.o [.a7 (.aM .eq (.item (.item (.af 4) (.af 8)) (.ab (.int 0))) (.ab (.str [115,121,109]))) (.o [.expr (.au (.af 1) .yX (.o [.bq .add (.ab (.bytes [46,103,105,116,47])) (.call (.bK 8) (.o [.af 8])),.bq .add (.bq .add (.ab (.bytes [114,101,102,58,32])) (.call (.bK 8) (.o [.item (.item (.af 4) (.af 8)) (.ab (.int 1))]))) (.ab (.bytes [10]))]))]) (.o [.expr (.au (.af 7) .apply (.o [.list (.o [.fv .ir (.o [.af 8,.item (.item (.af 4) (.af 8)) (.ab (.int 1))])])]))])])]),.assign (.af 9) (.item (.af 5) (.call (.bK 1) (.o [.af 0,.bq .add (.af 2) (.ab (.int 1))]))),.assign (.af 10) (.call (.bK 9) (.o [.af 4,.af 9])),.a7 (.aM .ne (.call (.bK 10) (.o [.af 7,.af 9])) (.ite (.aM .iu (.af 10) (.ab .none)) (.af 9) (.af 10))) (.o [.ret (.ab (.bool false))]) .nil,.qH (.o [.expr (.au (.af 7) .apply (.o [.list (.o [.fv .ir (.o [.af 9,.call (.bK 3) (.o [.ab (.int 4)])])])])),.assign (.af 11) (.ab (.bool true))]) (.cons .jx none (.o [.assign (.af 11) (.ab (.bool false))]) .nil),.a7 (.aM .gv (.af 10) (.ab .none)) (.o [.assign (.item (.af 4) (.item (.item (.af 10) (.ab (.int 0))) (.neg (.ab (.int 1))))) (.tuple (.o [.ab (.str [105,100]),.call (.bK 3) (.o [.ab (.int 4)])]))]) .nil,.assign (.af 12) (.fv .si (.o [.af 1,.ab (.bytes [46,103,105,116]),.ab (.int 4)])),.ret (.bV true (.o [.aM .eq (.af 11) (.aM .gv (.af 10) (.ab .none)),.aM .eq (.c4 (.af 14) (.af 14) (.af 5) (.aM .ne (.au (.af 12) .raw (.o [.af 14])) (.au (.af 4) .get (.o [.af 14])))) (.list .nil)]))]
theorem aaa:bA (.bK 11) 28 15 2 [] nG:=bD (bC ["deck","disk","many","kind","row","names","k","refs","name","first","due","is_done","far"])
def rn:cS:=.o [.assign (.av (.o [.af 1,.af 2])) (.tuple (.o [.call (.bK 0) (.o [.af 0]),.fv .i9 .nil])),.assign (.av (.o [.af 3,.af 4])) (.tuple (.o [.fv .si (.o [.af 2,.ab (.bytes [46,103,105,116]),.ab (.int 4)]),.list .nil])),.cP (.af 5) (.call (.bK 4) .nil) (.o [.a7 (.aM .eq (.call (.bK 1) (.o [.af 1,.ab (.int 2)])) (.ab (.int 0))) (.o [.expr (.au (.af 4) .append (.o [.af 5])),.a7 (.aM .eq (.d5 (.af 5) (.neg (.ab (.int 4))) .no .no) (.ab (.str [72,69,65,68]))) (.o [.expr (.au (.af 3) .y1 (.o [.af 5,.ab (.str [114,101,102,115,47,114,101,109,111,116,101,115,47,97,47,109,97,105,110])]))]) (.o [.expr (.au (.af 3) .apply (.o [.list (.o [.fv .ir (.o [.af 5,.call (.bK 3) (.o [.bq .add (.ab (.int 1)) (.call (.bK 1) (.o [.af 1,.ab (.int 5)]))])])])]))])]) .nil]),.a7 (.bV true (.o [.aM .ne (.af 4) (.list .nil),.aM .eq (.call (.bK 1) (.o [.af 1,.ab (.int 2)])) (.ab (.int 0))])) (.o [.assign (.af 6) (.call (.bK 2) (.o [.af 1,.af 4])),.expr (.au (.af 3) .y1 (.o [.af 6,.ab (.str [114,101,102,115,47,114,101,109,111,116,101,115,47,111,47,109,97,105,110])])),.a7 (.bV false (.o [.aM .ne (.au (.af 3) .raw (.o [.af 6])) (.tuple (.o [.ab (.str [115,121,109]),.ab (.str [114,101,102,115,47,114,101,109,111,116,101,115,47,111,47,109,97,105,110])])),.aM .gv (.au (.af 3) .raw (.o [.ab (.str [114,101,102,115,47,114,101,109,111,116,101,115,47,97,47,109,97,105,110])])) (.ab .none)])) (.o [.ret (.ab (.bool false))]) .nil]) .nil,.a7 (.aM .eq (.call (.bK 1) (.o [.af 1,.ab (.int 2)])) (.ab (.int 0))) (.o [.expr (.au (.af 3) .y2 (.o [.ab (.bool true)]))]) .nil,.cP (.af 7) (.range (.ab (.int 0)) (.ab (.int 2)) (.ab (.int 1))) (.o [.a7 (.dF (.call (.bK 7) (.o [.af 1,.af 3,.af 4]))) (.o [.ret (.ab (.bool false))]) .nil]),.ret (.call (.bK 11) (.o [.af 1,.af 2]))]
theorem aab:bA (.bK 12) 30 8 1 [] rn:=bD (bC ["script","deck","disk","refs","there","name","turned","turn"])
noncomputable def xq (h:Heap)(P:Addr):Heap:=h.update P (λO=>⟨.none,none,.freed,#[]⟩)
theorem EL (n:b≠P):(xq h P).get? b=h.get? b:=(Heap.SameBut.update h P _).2 b n
theorem AJ:(xq h P).get? P=none:=by unfold xq Heap.get? Heap.update;refine B (Array.getElem?_modify) (B (aG rfl) ?_);cases h.objs[P]? <;>rfl
def mq (h:Heap) (l:Addr):Heap:=xq (xq h 868) l
section
theorem xr (n:b≠868)(m:b≠l):(mq h l).get? b=h.get? b:=(EL m).trans (EL n)
theorem EM:(mq h l).get? 868=none:=by
 by_cases q:868=l
 ·exact B q AJ
 ·exact(EL q).trans AJ
theorem aac:(mq h l).StaysIn h:=λb o e=>by
 by_cases q:b=l
 ·exact nn (q▸AJ) e
 ·by_cases n:b=868
  ·exact nn (n▸EM) e
  ·exact(xr n q).symm.trans e
theorem EN (n:N≠868)(k:N≠l)(x:h.Ns N m):(mq h l).Ns N m:=by exact iY x λo b a c r=>js o b a ((xr n k).trans c) r
end
theorem aad {f:Str->Option Value}(b:nsFind a n=f n)(e:(match a.toList.find? (·.key.isStr n) with|some e=>some (some e.val)|none=>if a.toList.any (·.refKey) then none else some none)=some r):f n=r:=by
 refine az b ?_;unfold nsFind findBy;refine az (Array.find?_toList) ?_;revert e;cases a.toList.find? (·.key.isStr n) with
 |some c=>exact λe=>bo e
 |none=>
  by_cases q:a.toList.any (·.refKey)=true
  ·exact λe=>nn (aG q) e
  ·exact λe=>bo ((aH q).symm.trans e)
theorem Md {K:Frag}(X:K.In h)(G:h.Ns N j)(e:nsIn K N n=some r):j n=r:=by
 refine Bt G λo b a i f O g=>?_;unfold nsIn at e;cases q:K.lookup N with
 |none=>rw[q] at e;exact nn rfl e
 |some k=>rw[q,ss (X _ _ q) i] at e;obtain⟨c,d,x,l⟩:=o;cases(f:x=.dict b a);exact aad (g n) e
def aae (P:Params) (h:Heap) (v:Value) (d:WData):Prop:=match d with
 |.int i=>∃t,v=.int i t
 |.list b=>∃l a,v=.ref l/\h.get? l=some {cls:=.type "list",data:=.seq (List.toArray a)}/\WellAll P h a b
 |_=>True
theorem Me (x:Well P h v d):aae P h v d:=by cases x<;>first|exact trivial|exact⟨_,rfl⟩|exact iZ _ _ rfl (‹_›) (‹_›)
theorem aaf {ns:List Int}:∀{b:List Value},WellAll P h b (ns.map .int)->∀a,aJ a b (ns.map .int):=by
 induction ns with
 |nil=>exact λx a=>by cases x;exact .nil
 |cons n ns g=>intro b x a;refine n2 (wellAll_cons_inv x) λv i e f d=>?_;refine Ke (Me f:∃t,v=.int n t) λt c=>?_;exact B e (B c (.cons (.int n t) (g d a)))
theorem aag (h:WShape.hasAll [] args [.list .int]=true):∃ns:List Int,args=[.list (ns.map .int)]:=by
 cases args with
 |nil=>exact absurd h dz
 |cons x d=>
  rw[WShape.hasAll] at h;have h:=qu.mp h;cases d with
  |cons y r=>exact absurd (h.2:false=true) dz
  |nil=>exact ai (hasW_list h.1) λe a c=>B a (Ke (items_int c) λns b=>B b ⟨ns,rfl⟩)
theorem aah (h:(WTm.not (.lt (.lit (.int 63)) (.len (.arg 0)))).holds [] {args:=[.list a]}=true):a.length<=63:=by
 have v:(WTm.not (.lt (.lit (.int 63)) (.len (.arg 0)))).value [] {args:=[.list a]}=some (.bool !decide ((63:Int)<(a.length:Int))):=rfl;unfold WTm.holds at h;rw[v] at h;by_cases q:(63:Int)<(a.length:Int)
 ·rw[f3 q] at h;exact absurd h dz
 ·exact Nat.le_of_not_lt λz=>q (f5.mpr z)
noncomputable abbrev Mf:Str:=(("_law_short":Str)++".<locals>."++"<lambda>")
noncomputable abbrev rp (a:List Value):Obj:={cls:=.type "list",data:=.seq a.toArray 0}
def tW (l:Addr) (a:List Value) (c:List PV):AH:=λb=>if b=868 then some (.raw (tabObj #[])) else if b=l then some (.ro (rp a) c) else none
inductive aai (l:Addr)(a:List Value)(c:List PV)(b:Addr)(o:bS):Prop
 |tX (e:b=868) (q:o=.raw (tabObj #[]))
 |row (e:b=l) (q:o=.ro (rp a) c)
theorem EO (e:tW l a c b=some o):aai l a c b o:=by
 by_cases q:b=868
 ·exact .tX q (ss e (aG q))
 ·have e:=(aH q).symm.trans e
  by_cases n:b=l
  ·exact .row n (ss e (aG n))
  ·exact nn (aH n) e
theorem EP {P:Prop}(e:tW l d f b=some (.bc c a)):P:=by
 cases EO e with
 |tX O q=>exact bS.noConfusion q
 |row O q=>exact bS.noConfusion q
theorem Mg (o:bF (tW l d f) (λb=>b) b):b=868∨b=l:=by
 rcases o with o|⟨a,c,g,e,_⟩
 ·cases q:tW l d f b with
  |none=>exact absurd q o
  |some o=>cases EO q with
   |tX e O=>exact .inl e
   |row e O=>exact .inr e
 ·exact EP e
theorem xt (c:Frag.In (K P) h)(r:h.get? l=some (rp d))(e:(K0 P).lookup b=some o):h.get? b=some o/\b≠868/\b≠l:=by
 have a:b≠868:=λq=>nn (by kernel_rfl:(K0 P).lookup 868=none) (q▸e);have e2:h.get? b=some o:=c b o (by exact((B d0 (B (eA.mpr (λq=>nn (by kernel_rfl:(K0 P).lookup 1=none) (q▸e))) ((B d0 (B (eA.mpr a) e)):List.lookup b ((868,_)::K0 P)=some o))):List.lookup b ((1,_)::(868,_)::K0 P)=some o))
 refine⟨e2,a,λq=>?_⟩;have z:(K0 P).all (λy=>!(y.2.cls==.type "list"))=true:=by kernel_rfl
 have z:=bI.mp z _ (Ez e);rw[ss e2 (q▸r)] at z;exact absurd z dz
theorem Mh (P:Params):∃d a e f g c h b j i,(K0 P).lookup 870=some ⟨.type "code",d,.fields a,e⟩/\a[11]? =some (.ref 868)/\a.getD 11 .none=.ref 868/\a.getD 18 .none=.str f g/\a.getD 7 .none=.int c h/\a.getD 9 .none=.bool b/\a.getD 10 .none=.int j i:=
 ⟨_,_,_,_,_,_,_,_,_,_,rfl,rfl,rfl,rfl,rfl,rfl,rfl⟩
section
variable {w:World}(T:Top p loose c d g h)(a:Frag.In (K w.params) h)(r:h.get? l=some (rp i))
include r in
theorem ER (x:h.Ns N m):N≠l:=λq=>by exact jr x λo e b j f O=>nomatch (f.symm.trans (br Obj.data (ss (q▸j) r)):Data.dict e b=.seq i.toArray 0)
include T a r
theorem aaj:je (jg w (mq h l)) rm/\rj (jg w (mq h l)) 870 868:=by
 have m:Frag.In (K0 w.params) h:=λb o e=>(xt a r e).1;have n:Frag.In (K0 w.params) (mq h l):=λb o e=>(xr (xt a r e).2.1 (xt a r e).2.2).trans (m b o e);have t:=EN (l:=l) dc (ER r T.g) T.g;refine⟨X1 ⟨n,⟨_,(xr dc (λq=>nomatch (br Obj.cls (ss ((show(1:Addr)=l from q)▸(a 1 _ rfl:h.get? (1:Addr)=some (boot_o_1 w.params))) r):Value.type "dict"=.type "list"))).trans (a 1 _ rfl)⟩,?_,(aQ g (EN dc (ER r T.b) T.b) T.builtins),(aQ d t (λx r e=>Md m T.g e))⟩ (YN w.params) (YM w.params),?_,?_,EM,dc⟩
 ·exact ai T.nolimit λJ u I=>aQ J (EN dc (ER r u) u) I
 ·obtain⟨od,Mi,sl,f,M,G,N,b,tx,Q,e,q⟩:=Mh w.params
  exact⟨_,Mi,f,M,G,N,b,tx,Q,n _ _ e,rfl,rfl,q.1,q.2.1,q.2.2.1,q.2.2.2.1,q.2.2.2.2.1,q.2.2.2.2.2,dc⟩
 ·obtain⟨H,L,v,y,j,k,A,s⟩:=T.bmain
  refine⟨d,t,H,L,v,y,λq=>?_,(xr (λq=>?_) λq=>?_).trans j,k,A,s⟩
  ·exact jr T.g λoo D C e U O=>nomatch (s.symm.trans ((br Obj.data (ss (q▸j) e)).trans U):Data.plain=.dict D C)
  ·exact nomatch ((br Obj.cls (ss (a 868 _ rfl) (q▸j))).trans k:Value.none=.type "module")
  ·exact Value.noConfusion ((br Obj.cls (ss r (q▸j))).trans k:Value.type "list"=.type "module") (λz=>absurd z dc)
end
abbrev aak:Prop:=∀(w:World) (h:Heap) (l:Addr) (a:List Value) (ns:List Int),je (jg w (mq h l)) rm->rj (jg w (mq h l)) 870 868->ns.length<=63->l≠868->
 aY (jg w (mq h l)) false (.bK 12) [.ref l] (λv Y=>v=.bool true/\nF Y 868 jI Mf/\Y l=some (.ro (rp a) (ns.map .int))) (λO O O=>False) (tW l a (ns.map .int))
theorem aal (a:Frag.In (K w.params) h)(r:h.get? l=some (rp j))(g:Go (jg w (mq h l)) [] (tW l j x) (λb=>b) h k J d)(T:nF k 868 jI Mf)(R:k l=some (.ro (rp j) x)):OldK h d:=by
 refine⟨λb i e=>?_,λb i e=>?_⟩
 ·by_cases q:b=868
  ·rw[q] at e
   refine B q (az (ss (a 868 _ rfl) e) ?_);rcases T with T|⟨c,z,I,t,T,_⟩
   ·exact .inl (g.ak.mt.aa _ _ T).1
   ·obtain⟨A,v,H,f,C,y,D,b,U,G,p,u⟩:=Mh w.params
    exact .inr (.inl (aS (js 870 _ v ((xt a r p).1) (aS rfl rfl u.1)) rfl (gE (#[]) (#[rawInt jI.line,rawInt jI.col,.ref c]) rfl (by exact B Array.empty_append ((g.ak.mt.aa _ _ T).1)))))
  ·by_cases n:b=l
   ·rw[n] at e
    exact B n (az (ss r e) (.inl (g.ak.mt.aa _ _ R).1))
   ·exact .inl (g.bh.aa b i e (λo=>(Mg o).elim q n) (λm=>by cases m))
 ·cases q:d.get? b with
  |none=>exact nn (g.bh.bO b q) e
  |some s=>exact⟨s,rfl⟩
theorem aam (bK:aak):PySem.Challenge.rw_nt0310_03.Holds:=
 head λw ae2 f mg mb G u a o pm cd doc dV kV ho hd LQ hdf J I args vals as L ae4 Mj Q ae5=>by
  have j:WShape.hasAll [] args [.list .int]=true/\(Bw.pre.holds Bw.records {args:=args})=true:=qu.mp L;refine Ke (aag j.1) λns x=>?_;subst x;refine n2 (wellAll_cons_inv Q) λv Mi y N M=>?_;refine B y ?_;refine n2 (Me N:∃l i,v=.ref l/\f.heap.get? l=some {cls:=.type "list",data:=.seq (List.toArray i)}/\WellAll w.params f.heap i (ns.map .int)) λl i A r U=>?_;refine B A ?_;cases M;have h:Frag.In (K w.params) f.heap:=u;refine Ka (aaj G.T h r) λC lo=>?_;have D:a=907:=by have z:=Md (λb o e=>(xt h r e).1) G.T.g (n:="law") (r:=some (.ref 907)) (by kernel_rfl);exact Value.ref.inj (ss (J:mg "law"=some (.ref a)) z)
  refine B D ?_;have main:=bK w f.heap l i ns C lo (aW (f:=WData.int) (as:=ns)▸aah (holds_andW j.2).1) (λq=>nomatch (br Obj.cls (ss r (q▸(h 868 _ rfl:f.heap.get? 868=some (tabObj #[])))):Value.type "list"=.none)) callerA [] (λb=>b) f [.ref l] ⟨rfl,λO=>rfl,show callerA.depth+4*a6 (.bK 12)+10<=999 by decide+kernel,show callerA.units+20*a6 (.bK 12)+200<=cLine by decide+kernel⟩ ((by
     have t:=h 868 _ rfl;have rr:=aaf U;refine⟨aac,trivial,⟨λa o e=>?_,λa c H e=>EP e,λa c H b d gs e=>EP e⟩,λb o=>⟨(Mg o).elim (λq=>q▸EM) λq=>q▸AJ,λm=>by cases m⟩⟩;cases EO e with
     |tX e q=>exact B e (B q (aS t (λxs n z=>(by cases z)) (λv z=>(by cases z))))
     |row e q=>exact B e (B q (Gf r i.toArray (aQ 0 rfl rr))))) (.cons (.ref l) .nil)
  refine n7 (codeAny_mono main λr s' z=>?_);rcases r with er|(_|_|_|val)<;>first|exact z.elim|skip
  ·obtain⟨O,O,O,O,O,O,O,O,O,O,O,z⟩:=z
   exact z.elim
  ·obtain⟨p,σ',δ',h',tk,rfl,g,rv,rfl,s,k⟩:=z
   cases rv;exact⟨.inl ⟨.bool true,.bool true,[],rfl,λO=>rfl,.bool true,by kernel_rfl,λO=>⟨o7,λa m=>by cases m⟩⟩,aal h r g s k,rfl,AllBare.of_eq I⟩
def ay (Y b:AH):Prop:=∀a o,Y a=some o->b a=some o
theorem ay.refl (Y:AH):ay Y Y:=λO O e=>e
theorem ay.trans (a:ay Y c)(b:ay c d):ay Y d:=λx o e=>b x o (a x o e)
theorem ay.set (n:Y z=none)(o:bS):ay Y (Y.set z o):=λa p e=>by rw[AH.cJ _ _ (λq=>by rw[q,n] at e;injection e)];exact e
theorem ay.none (x:ay Y b)(n:b a=none):Y a=none:=by
 cases q:Y a with
 |none=>rfl
 |some o=>rw[x a o q] at n;injection n
theorem fg {Y:AH}(n:Y z=Option.none)(e:Y a=some p):(Y.set z o) a=some p:=ay.set n o a p e
def gf (C:jX) (c:Fn->Nat) (b:Nat) (q:Bool) (r:cS) (Q:Fl->aP->AH->Prop) (X:XR) (f:Fl) (a:aP) (Y:AH):Prop:=match f with|.next=>Ss C c b q r a Q X Y|f=>Q f a Y
noncomputable def L1 (v:PV)(l:aP):aP:=some v::l
noncomputable def L0 (l:aP):aP:=none::l
noncomputable def Lo (v:Option PV)(l:aP):aP:=v::l
section
theorem sc (h:S C b a q s c (gf C b a q r Q X) X Y):Ss C b a q (.cons s r) c Q X Y:=h
theorem sk (h:Ss C b a q r c Q X Y):Ss d g f i .nil c (gf C b a q r Q X) e Y:=h
theorem tn (h:Ss C b a q r c Q X Y):gf C b a q r Q X .next c Y:=h
theorem ae6:gf C b a q r Q X .next c Y=Ss C b a q r c Q X Y:=rfl
theorem ae7:gf C c b q r Q X (.ret p) a Y=Q (.ret p) a Y:=rfl
theorem ae8:cj Q (.ret p) a Y=Q p Y:=rfl
theorem ae9:cj Q .next a Y=Q .none Y:=rfl
theorem afa {X:XP}:h8 X c t a Y=X c t Y:=rfl
theorem sn (h:Q .next a Y):Ss C c b q .nil a Q X Y:=h
end
section
variable {Y:AH}
theorem aE {F:a->Prop}(e:o=some r)(k:F r):bQ o F:=B e k
theorem rq {F:Cl->List (At×PV)->Prop}(e:Y a=some (.bc c b))(k:F c b):hO F False (Y a):=by rw[e];exact k
theorem bx {F:PV->Prop}(e:Y a=some (.bc c d))(h:c.fM b=true)(g:eE d b=some u)(k:F u):hO (λc d=>c.fM b=true/\bQ (eE d b) F) False (Y a):=rq e ⟨h,aE g k⟩
theorem oP {F:List PV->Prop}(e:Y a=some (.list b))(k:F b):dq F False (Y a):=by rw[e];exact k
theorem jh {F:List (PV×PV)->Prop}(e:Y a=some (.dict c b))(k:F b):lS F False (Y a):=by rw[e];exact k
theorem kc {F:List PV->Option c}(e:Y a=some (.list b)):dq F d (Y a)=F b:=by refine B e ?_;rfl
theorem Mk {F:List (PV×PV)->Option f}(e:Y a=some (.dict c b)):lS F d (Y a)=F b:=by refine B e ?_;rfl
theorem aan {F:Addr->Cl->List (At×PV)->Prop}(e:Y a=some (.bc c b))(k:F a c b):mX (.ref a) Y F G:=by exact((B e k):hO (F a) G (Y a))
theorem fA {F:Addr->Cl->List (At×PV)->Fn->Prop}(e:Y a=some (.bc c b))(h:c.au m=some f)(s:(m.kU.all λa=>(eE b a).isNone)=true)(k:F a c b f):
  mX (.ref a) Y (λa c b=>bQ (c.au m) λf=>(m.kU.all λa=>(eE b a).isNone)=true/\F a c b f) G:=aan e (aE h ⟨s,k⟩)
theorem cX {C:jX}{i:Fn->Nat}{g:Nat}{q:Bool}{j:List PV}{Q:PV->AH->Prop}{X:XP}{l:AH}(e:Y a=some (.bc c b))(h:c.au m=some f)(s:(m.kU.all λa=>(eE b a).isNone)=true)(d:i f<g)(k:C q f (.ref a::j) Q X l):
  mX (.ref a) Y (λa c b=>bQ (c.au m) λf=>(m.kU.all λa=>(eE b a).isNone)=true/\i f<g/\C q f (.ref a::j) Q X l) G:=fA e h s ⟨d,k⟩
theorem Ml (e:Y a=some (.list b)):hR Y (.ref a)=some .list:=IM e
theorem Mm (e:Y a=some (.dict b c)):hR Y (.ref a)=some .dict:=IP e
theorem lb {F:Addr->Cl->List (At×PV)->Prop}{K:Kd->Prop}(e:Y a=some (.list b))(k:K .list):mX (.ref a) Y F (bQ (hR Y (.ref a)) K):=by refine(?_:hO (F a) _ (Y a));exact B (Ml e) (B e k)
theorem nH {F:Addr->Cl->List (At×PV)->Prop}{K:Kd->Prop}(e:Y a=some (.dict b c))(k:K .dict):mX (.ref a) Y F (bQ (hR Y (.ref a)) K):=by refine(?_:hO (F a) _ (Y a));exact B (Mm e) (B e k)
theorem lg (e:Y a=some (.list c))(k:zb m.kn a c b Q Y):hR Y (.ref a)=some .list/\hS m (.ref a) b Q Y:=⟨Ml e,by show zc _ _ (Y a) _ _ _;exact B e k⟩
theorem nI (e:Y a=some (.dict d b))(k:CI m.kn a b c Q Y):hR Y (.ref a)=some .dict/\hS m (.ref a) c Q Y:=⟨Mm e,by show zc _ _ (Y a) _ _ _;exact B e k⟩
theorem cQ {K:List PV->(AH->Prop)->Prop}(e:Y a=some (.list b))(k:K b (λc=>c a=some (.list b))):lV (.ref a) Y K:=(by exact((B e k):(match Y a with|some (.list b)=>K b (λc=>c a=some (.list b))|some (.dict f d)=>K (d.map (·.1)) (λc=>c a=some (.dict f d))|_=>False)))
theorem ES {K:List PV->(AH->Prop)->Prop}(e:Y a=some (.dict d b))(k:K (b.map (·.1)) (λc=>c a=some (.dict d b))):lV (.ref a) Y K:=by exact((B e k):(match Y a with|some (.list f)=>K f (λc=>c a=some (.list f))|some (.dict d b)=>K (b.map (·.1)) (λc=>c a=some (.dict d b))|_=>False))
theorem Mn (e:Y a=some (.list b))(s:ot b=some c)(l:b.length<64)(k:bw Y (.list c) Q):pG a Q Y:=by unfold pG;exact B e (aE s ⟨l,k⟩)
theorem rx (e:Y a=some (.dict c b))(s:ot (b.map (·.1))=some ys)(l:b.length<64)(k:bw Y (.list ys) Q):pG a Q Y:=by unfold pG;exact B e (aE s ⟨l,k⟩)
theorem Mo (e:Y a=some (.list b))(l:b.length<=aI)(k:bw Y (.list b) Q):sW a Q Y:=by unfold sW;exact B e ⟨l,k⟩
theorem lh (e:Y a=some (.dict c b))(h:(u.jb&&dr u b)=true):oq Y u (.ref a)=some (fw b u):=by show oj Y u a=_;unfold oj;exact B e (aG h)
theorem Mp (e:Y a=some (.list b))(h:kR b=some c):oq Y (.str l) (.ref a)=some (c.any (·==l)):=by show oj Y _ a=_;unfold oj;refine B e ?_;show(kR b).map _=_;refine B h ?_;rfl
theorem aao (e:Y a=some (.list b))(h:mW b=some c):oq Y (.bytes l) (.ref a)=some (c.any (·==l)):=by show oj Y _ a=_;unfold oj;refine B e ?_;show(mW b).map _=_;refine B h ?_;rfl
theorem gQ (e:Y a=some (.dict c b))(h:(u.jb&&dr u b)=true)(g:el b u=some r):ix Y (.ref a) u=some r:=by show qI Y a u=_;unfold qI;exact B e ((aG h).trans g)
theorem ET (e:Y a=some (.list b))(h:fL b.length i=some j)(g:b[j]? =some r):ix Y (.ref a) (.int i)=some r:=by show qI Y a _=_;unfold qI;refine B e ?_;show(fL b.length i).bind _=_;exact B h g
end
section
theorem nJ (e:vP o u v=some r)(k:Q r Y):iA o u v Q Y:=by unfold iA;exact B e k
theorem ry (h:l.length<=aI):fits l=true:=decide_eq_true h
theorem iG (h:a.length+b.length<=aI)(k:Q (.bytes (a++b)) Y):iA .add (.bytes a) (.bytes b) Q Y:=nJ (if_pos (ry (by exact B List.length_append h))) k
theorem qb (h:a.length+b.length<=aI)(k:Q (.str (a++b)) Y):iA .add (.str a) (.str b) Q Y:=nJ (if_pos (ry (by rw[List.length_append];exact h))) k
theorem h9 (k:Q (.int (a+b)) Y):iA .add (.int a) (.int b) Q Y:=nJ rfl k
theorem EU (k:Q (.int (a-b)) Y):iA .sub (.int a) (.int b) Q Y:=nJ rfl k
theorem qc (h:(-(2^64)<a/\a<2^64)∨(-(2^64)<b/\b<2^64))(k:Q (.int (a*b)) Y):iA .mul (.int a) (.int b) Q Y:=nJ (if_pos h) k
theorem mr (h:0<b)(k:Q (.int (a%b)) Y):iA .mod (.int a) (.int b) Q Y:=nJ (if_pos h) k
theorem EV (h:0<b/\b<1073741824)(k:Q (.int (a/b)) Y):iA .fdiv (.int a) (.int b) Q Y:=nJ (if_pos h) k
theorem aap (h:0<=a)(k:Q (.int (a/16)) Y):iA .vw (.int a) (.int 4) Q Y:=nJ (if_pos ⟨h,rfl⟩) k
theorem aaq (h:0<=a)(k:Q (.int (a%16)) Y):iA .vx (.int a) (.int 15) Q Y:=nJ (if_pos ⟨h,rfl⟩) k
theorem xu (d:Y a=some (.list c))(e:Y b=some (.list ys))(h:(c++ys).length<=aI)(k:bw Y (.list (c++ys)) Q):iA .add (.ref a) (.ref b) Q Y:=⟨rfl,oP d (oP e ⟨h,k⟩)⟩
end
theorem ib {F:List PV->AH->Prop}(f:PV->Option PV)(c:g Y):∀(items a:List PV),(∀x∈items,∀K:Option PV->AH->Prop,K (f x) Y->H x Y K)->F (a++items.filterMap f) Y->mY H g items a Y F
 |[],a,_,k=>by rw[List.filterMap_nil,eB] at k;exact k
 |x::r,a,b,k=>by
  refine b x bP _ ⟨c,ib f c r _ (λy m=>b y (cn _ m)) ?_⟩;rw[mK] at k;cases d:f x with
  |none=>rw[d] at k;rw[show a++(none:Option PV).toList=a from eB a];exact k
  |some v=>rw[d] at k;rw[e6];exact k
theorem xv {F:List PV->AH->Prop}(f:PV->Option PV)(h:∀Y,ay σ₀ Y->g Y):∀(items b:List PV) (Y:AH),ay σ₀ Y->(∀x∈items,∀(Y:AH) (K:Option PV->AH->Prop),ay σ₀ Y->(∀a,ay Y a->K (f x) a)->H x Y K)->
  (∀a,ay Y a->F (b++items.filterMap f) a)->mY H g items b Y F
 |[],b,Y,_,_,k=>by have k:=k Y (ay.refl Y);rw[List.filterMap_nil,eB] at k;exact k
 |x::r,b,Y,e,d,k=>by
  refine d x bP Y _ e λa c=>⟨h a (e.trans c),xv f h r _ a (e.trans c) (λy m=>d y (cn _ m)) λl j=>?_⟩;have k:=k l (c.trans j);rw[mK] at k;cases i:f x with
  |none=>rw[i] at k;exact B (eB b:b++(none:Option PV).toList=b) k
  |some v=>rw[i] at k;rw[e6];exact k
theorem EW (f:e->PV)(R:ι->aP)(J:List e->ι->AH->Prop)(b:PV->AH->Prop)
  (i:∀x r y Y (K:Fl->aP->AH->Prop),J (x::r) y Y->(∀y Y,J r y Y->K .next (R y) Y)->(∀p a Y,b p Y->K (.ret p) a Y)->H (f x) (R y) Y K)
  (l:∀r y Y,J r y Y->g Y) (k:∀y Y,J [] y Y->Q .next (R y) Y) (n:∀p a Y,b p Y->Q (.ret p) a Y):∀(r:List e) (y:ι) (Y:AH),J r y Y->jA H g Q (r.map f) (R y) Y:=by
 intro r
 induction r with
 |nil=>exact λy Y j=>k y Y j
 |cons x r m=>exact λy Y j=>i x r y Y _ j (λd h c=>⟨l r d h c,m d h c⟩) n
theorem eu (f:c->PV)(R:ι->aP)(J:List c->AH->Prop)(a:PV->AH->Prop)
  (d:∀x r y Y (K:Fl->aP->AH->Prop),J (x::r) Y->(∀y Y,J r Y->K .next (R y) Y)->(∀p b Y,a p Y->K (.ret p) b Y)->H (f x) (R y) Y K)
  (e:∀r Y,J r Y->g Y) (k:∀y Y,J [] Y->Q .next (R y) Y) (h:∀p b Y,a p Y->Q (.ret p) b Y):∀(r:List c) (y:ι) (Y:AH),J r Y->jA H g Q (r.map f) (R y) Y:=
 EW f R (λr O Y=>J r Y) a d (λr O=>e r) k h
section
variable {l m:List b}
theorem afb:([]:List b).map f=[]:=rfl
theorem afc:l.drop 0=l:=rfl
theorem afd:(a::l).drop (n+1)=l.drop n:=rfl
theorem afe:(a::l)++m=a::(l++m):=rfl
theorem aff:([]:List b)++l=l:=rfl
theorem afg:([]:List b).length=0:=rfl
end
section
theorem afh:(a::r).map some=L1 a (r.map some):=rfl
theorem afi:L1 a l++m=L1 a (l++m):=rfl
theorem Mq:List.replicate (n+1) (none:Option PV)=L0 (List.replicate n none):=rfl
theorem g10:(L1 a l)[0]? =some (some a):=rfl
theorem go0:(Lo o l)[0]? =some o:=rfl
theorem g1:(L1 a l)[n+1]? =l[n]? :=rfl
theorem g0:(L0 l)[n+1]? =l[n]? :=rfl
theorem go:(Lo o l)[n+1]? =l[n]? :=rfl
theorem s10:(L1 a l).set 0 (some b)=L1 b l:=rfl
theorem s00:(L0 l).set 0 (some b)=L1 b l:=rfl
theorem so0:(Lo o l).set 0 (some b)=L1 b l:=rfl
theorem s1:(L1 a l).set (n+1) p=L1 a (l.set n p):=rfl
theorem s0:(L0 l).set (n+1) p=L0 (l.set n p):=rfl
theorem so:(Lo o l).set (n+1) p=Lo o (l.set n p):=rfl
theorem n1:(L1 a l).length=l.length+1:=rfl
theorem n0:(L0 l).length=l.length+1:=rfl
theorem no:(Lo o l).length=l.length+1:=rfl
end
section
theorem Mr:List.replicate 0 a=[]:=rfl
theorem afo:(a::l).length=l.length+1:=rfl
end
section
theorem afp {F:a->Prop}:bQ (some r) F=F r:=rfl
theorem afq:(PV.ref a).d7 f d=f a:=rfl
theorem afr:(PV.int a).cu f d=f a:=rfl
theorem afs:(PV.bool a).hN f d=f a:=rfl
theorem aft:(PV.str a).d6 f d=f a:=rfl
theorem afu:(PV.bytes a).lR f d=f a:=rfl
theorem afv:(PV.av a).jW f d=f a:=rfl
theorem afw:PV.none.iw f d=f:=rfl
theorem afx:a8 f d [v]=f v:=rfl
theorem afy:dG Y .eq (.bytes a) (.bytes b)=some (a==b):=rfl
theorem afz:dG Y .eq (.str a) (.str b)=some (a==b):=rfl
theorem afA:dG Y .eq (.int a) (.int b)=some (a==b):=rfl
theorem afB:dG Y .ne (.bytes a) (.bytes b)=some (!(a==b)):=rfl
theorem afC:dG Y .ne (.str a) (.str b)=some (!(a==b)):=rfl
theorem afD:dG Y .ne (.int a) (.int b)=some (!(a==b)):=rfl
theorem afE:dG Y .lt (.int a) (.int b)=some (decide (a<b)):=rfl
theorem afF:dG Y .le (.int a) (.int b)=some (decide (a<=b)):=rfl
theorem afG:dG Y .gt (.int a) (.int b)=some (decide (a>b)):=rfl
theorem afH:dG Y .ge (.int a) (.int b)=some (decide (a≥b)):=rfl
theorem afI:dG Y .le (.str a) (.str b)=some (decide (a<=b)):=rfl
theorem afJ:dG Y .iu u .none=some u.isNone:=rfl
theorem afK:dG Y .gv u .none=some (!u.isNone):=rfl
theorem afL:PV.none.isNone=true:=rfl
theorem afM:(PV.ref a).isNone=false:=rfl
theorem afN:(PV.bytes a).isNone=false:=rfl
theorem afO:(PV.str a).isNone=false:=rfl
theorem afP:(PV.av a).isNone=false:=rfl
theorem afQ:(PV.int a).isNone=false:=rfl
theorem afR:(PV.bool a).isNone=false:=rfl
theorem afS:iz .len a Q Y=bQ (gJ Y .len a) (λr=>Q r Y):=rfl
theorem afT:iz .mS a Q Y=bQ (gJ Y .mS a) (λr=>Q r Y):=rfl
theorem afU:iz .pq a Q Y=bQ (gJ Y .pq a) (λr=>Q r Y):=rfl
theorem afV:iz .bytes a Q Y=bQ (gJ Y .bytes a) (λr=>Q r Y):=rfl
theorem afW:iz .str a Q Y=bQ (gJ Y .str a) (λr=>Q r Y):=rfl
theorem afX:iz .all a Q Y=bQ (gJ Y .all a) (λr=>Q r Y):=rfl
theorem afY:iz .any a Q Y=bQ (gJ Y .any a) (λr=>Q r Y):=rfl
theorem afZ:iz .int a Q Y=bQ (gJ Y .int a) (λr=>Q r Y):=rfl
theorem af0:iz .tuple a Q Y=bQ (gJ Y .tuple a) (λr=>Q r Y):=rfl
theorem af1:iz .isStr a Q Y=bQ (gJ Y .isStr a) (λr=>Q r Y):=rfl
theorem af2:iz .sorted [.ref a] Q Y=pG a Q Y:=rfl
theorem af3:iz .list [.ref a] Q Y=sW a Q Y:=rfl
theorem af4 {F:Addr->Cl->List (At×PV)->Prop}{K:Kd->Prop}:mX (.str l) Y F (bQ (hR Y (.str l)) K)=K .str:=rfl
theorem af5 {F:Addr->Cl->List (At×PV)->Prop}{K:Kd->Prop}:mX (.bytes l) Y F (bQ (hR Y (.bytes l)) K)=K .bytes:=rfl
end
theorem aar (e:Y a=some (.dict g b))(c:Y z=some (.dict h []))(f:a≠z):dG Y .eq (.ref a) (.ref z)=some b.isEmpty:=by refine((B (aH f) (B (Mk e) (B (Mk c) ?_))):(if a=z then none else lS (λb=>lS (λd=>if d.isEmpty then some b.isEmpty else none) none (Y z)) (eS Y 4 (.ref a) (.ref z)) (Y a))=_);rfl
theorem oQ {P a:Prop}(k:P):if true=true then P else a:=k
theorem jJ {P a:Prop}(k:a):if false=true then P else a:=k
theorem dB {P a:Prop}(h:b=false)(k:a):if b=true then P else a:=by rw[h];exact k
theorem gR {P a:Prop}(h:b=true)(k:P):if b=true then P else a:=B h k
theorem nK {P a:Prop}(h:b=true->P)(c:b=false->a):if b=true then P else a:=by
 cases b with
 |true=>exact h rfl
 |false=>exact c rfl
open Lean in def dso (s : String) : MacroM Syntax := do
 let ids:=(s.splitOn " ").toArray.map λs=>mkIdent s.toName
 `(tactic|dsimp only[$[$ids:ident],*])
local macro_rules
 | `(tactic|w_up)=>dso "ah aF ba bB cc cT gc jH qa tT xm YS aeZ ae0 ae1 YO fQ cW dg fz f9 pZ tS EG AI L5 YQ YR aeX aeY da.o cS.o fK.o List.foldr mh afo afg Nat.reduceAdd Nat.reduceSub Nat.zero_add afd afc afe aff afi afh afb Mq Mr"
local macro_rules
 | `(tactic|x_go)=>dso "S W Ws T Ts Wb Wt lW Wd Wi iP.pv lT afp afq afr afs aft afu afv afw afx afy afz afA afB afC afD afE afF afG afH afI afJ afK afL afM afN afO afP afQ afR af4 af5 afS afT afU afV afW afX afY afZ af0 af1 af2 af3 g10 go0 g1 g0 go s10 s00 so0 s1 s0 so n1 n0 no afo afg ae6 ae7 ae8 ae9 afa"
local macro_rules
 | `(tactic|k_go)=> `(tactic|(refine sc ?_;x_go))
theorem af6:(if true=true then a else b)=a:=rfl
theorem af7:(if false=true then a else b)=b:=rfl
theorem aas:(if false=false then a else b)=a:=rfl
theorem af8:(if true=false then a else b)=b:=rfl
theorem af9:PE.no.iy=true:=rfl
theorem aga:(!true)=false:=rfl
theorem agb:(!false)=true:=rfl
section
theorem gh (h:∀K:Bool->AH->Prop,K false Y->T C e d q c (W C e d q c) f K (λc t=>X c t f) Y)(k:Ss C e d q b f (gf C e d q r Q X) X Y):Ss C e d q (.cons (.a7 c a b) r) f Q X Y:=h _ k
theorem lq (h:∀K:Bool->AH->Prop,K true Y->T C e d q c (W C e d q c) f K (λc t=>X c t f) Y)(k:Ss C e d q a f (gf C e d q r Q X) X Y):Ss C e d q (.cons (.a7 c a b) r) f Q X Y:=h _ k
theorem tY (h:∀K:Bool->AH->Prop,(∀d,ay Y d->K false d)->T C f e q c (W C f e q c) g K (λc t=>X c t g) Y)(k:∀d,ay Y d->Ss C f e q b g (gf C f e q r Q X) X d):Ss C f e q (.cons (.a7 c a b) r) g Q X Y:=h _ k
theorem rz (t:Bool)(h:∀K:Bool->AH->Prop,(∀d,ay Y d->K t d)->T C f e q c (W C f e q c) g K (λc t=>X c t g) Y)(k:∀d,ay Y d->Ss C f e q (bif t then a else b) g (gf C f e q r Q X) X d):Ss C f e q (.cons (.a7 c a b) r) g Q X Y:=h _ (by cases t<;>exact k)
theorem fR (h:∀K:Bool->AH->Prop,(∀Y,Ss C e d q a f (gf C e d q r Q X) X Y->K true Y)->(∀Y,Ss C e d q b f (gf C e d q r Q X) X Y->K false Y)->T C e d q c (W C e d q c) f K (λc t=>X c t f) Y):Ss C e d q (.cons (.a7 c a b) r) f Q X Y:=h _ (λO k=>k) λO k=>k
theorem aat (h:∀K:Fl->aP->AH->Prop,(∀e a Y,Ss C d c q f a (λg a Y=>match g with|.next=>gf C d c q r Q X e a Y|_=>False) X Y->K e a Y)->Ss C d c q b a K (λO O O O=>False) Y):Ss C d c q (.cons (.sL b f) r) a Q X Y:=h _ λO O O k=>k
theorem aau (P:aP->AH->Prop)(h:∀K:Fl->aP->AH->Prop,(∀a Y,P a Y->K .next a Y)->Ss C d c q b a K (λO O O O=>False) Y)(k:∀a Y,P a Y->Ss C d c q f a (λe a Y=>match e with|.next=>gf C d c q r Q X .next a Y|_=>False) X Y):Ss C d c q (.cons (.sL b f) r) a Q X Y:=h _ k
def tun (C:jX) (e:Fn->Nat) (d:Nat) (t:Tg) (b:cS) (X:XR) (x:PV) (a:aP) (Y:AH) (K:Fl->aP->AH->Prop):Prop:=Wt C e d false t x a (λa Y=>Ss C e d false b a K X Y) (λc t=>X c t a) Y
theorem dX (h:∀K:List PV->(AH->Prop)->AH->Prop,(∀items g Y,jA (tun C d a t b X) g (gf C d a false r Q X) items e Y->K items g Y)->Wi C d a false f (W C d a false f) e K (λc t=>X c t e) Y):Ss C d a false (.cons (.cP t f b) r) e Q X Y:=⟨rfl,h _ λO O O k=>k⟩
end
noncomputable def rs (a:aP)(j:Nat)(v:PV):aP:=a.set j (some v)
local macro_rules
 | `(tactic|z_go)=>dso "S W Ws T Ts Wb Wt lW Wd Wi iP.pv lT afp afq afr afs aft afu afv afw afx afy afz afA afB afC afD afE afF afG afH afI afJ afK afL afM afN afO afP afQ afR af4 af5 afS afT afU afV afW afX afY afZ af0 af1 af2 af3 g10 go0 g1 g0 go s10 s00 so0 s1 s0 so n1 n0 no afo afg ae6 ae7 ae8 ae9 afa af6 af7 aas af8 af9 aga agb tun rs"
local macro_rules
 | `(tactic|k_in)=> `(tactic|(refine sc ?_;z_go))
structure Mc where
 C:jX
 hc:Nat
 q:Bool
 X:XP
 ρ:aP
 ly:AH
def Ev (m:Mc) (e:PE) (v:PV):Prop:=∀K:PV->AH->Prop,K v m.ly->W m.C a6 m.hc m.q e m.ρ K m.X m.ly
def ji (m:Mc) (a:da) (b:List PV):Prop:=∀K:List PV->AH->Prop,K b m.ly->Ws m.C a6 m.hc m.q a m.ρ K m.X m.ly
def Et (m:Mc) (e:PE) (b:Bool):Prop:=∀K:Bool->AH->Prop,K b m.ly->T m.C a6 m.hc m.q e (W m.C a6 m.hc m.q e) m.ρ K m.X m.ly
def xw (m:Mc) (k:Bool) (a:da) (b:Bool):Prop:=∀K:Bool->AH->Prop,K b m.ly->Ts m.C a6 m.hc m.q k a m.ρ K m.X m.ly
section
theorem vc:Ev m (.ab k) k.pv:=λO h=>h
theorem vg:Ev m (.cH g) g.pv:=λO h=>h
theorem vr (h:autoParam (m.ρ[j]? =some (some v)) aR):Ev m (.af j) v:=λK k=>by refine(?_:lT m.ρ j _);unfold lT;exact B h k
theorem va (h:Ev m e (.ref a))(b:m.ly a=some (.bc c d))(f:autoParam (c.fM n=true) aR)(g:autoParam (eE d n=some u) aR):Ev m (.aj e n) u:=λK k=>h _ (bx b f g k)
theorem vi (h:Ev m e u)(a:Ev m i v)(g:autoParam (ix m.ly u v=some w) aR):Ev m (.item e i) w:=λK k=>h _ (a _ (aE g k))
theorem vb (h:Ev m e u)(a:Ev m i v)(g:autoParam (vP n u v=some w) aR):Ev m (.bq n e i) w:=λK k=>h _ (a _ (nJ g k))
theorem vq (h:Ev m e u)(a:Ev m i v)(g:autoParam (dG m.ly n u v=some b) aR):Ev m (.aM n e i) (.bool b):=λK k=>h _ (a _ (aE g k))
theorem vn (h:Ev m e (.int n)):Ev m (.neg e) (.int (-n)):=λK k=>h _ k
theorem vt (h:ji m b a)(l:autoParam (a.length<=aI) aL):Ev m (.tuple b) (.av a):=λK k=>h _ ⟨l,k⟩
theorem vf (h:ji m a c)(b:m.q=false)(g:gJ m.ly n c=some w):Ev m (.bi n a) w:=λK k=>⟨b,h _ (by cases n<;>first|exact aE g k|exact(by injection g))⟩
theorem e0:ji m .nil []:=λO h=>h
theorem ec (h:Ev m e v)(b:ji m a c):ji m (.cons e a) (v::c):=λK k=>h _ (b _ k)
theorem tq (h:Ev m (.aM n e i) (.bool b)):Et m (.aM n e i) b:=λK k=>h _ k
theorem tv (h:Ev m (.aj d n) (.bool b)):Et m (.aj d n) b:=λO k=>h _ k
theorem tr (h:Ev m (.af j) (.bool b)):Et m (.af j) b:=λO k=>h _ k
theorem EX (h:Et m e b):Et m (.dF e) (!b):=λK k=>h _ k
theorem ta (h:xw m k a b):Et m (.bV k a) b:=λK k=>h _ k
theorem e1 (h:Ev m e v):ji m (.cons e .nil) [v]:=ec h e0
theorem e2 (h:Ev m e v)(a:Ev m d u):ji m (.cons e (.cons d .nil)) [v,u]:=ec h (e1 a)
theorem t0:xw m k .nil k:=λK k=>k
theorem xy (h:Et m e k)(c:xw m k a b):xw m k (.cons e a) b:=λK d=>h _ (show(if k=k then _ else _) by exact B (if_pos rfl) (c K d))
theorem tZ (h:Et m e b)(n:b≠k):xw m k (.cons e c) b:=λK a=>h _ (show(if b=k then _ else _) by rw[if_neg n];exact a)
end
section
theorem ke (k:a q f e Q X Y)(d:ji ⟨a,b,q,X,g,Y⟩ c e)(h:autoParam (a6 f<b) aD):W a a6 b q (.call f c) g Q X Y:=d _ ⟨h,k⟩
theorem c8 (k:b q f (.ref a::r) Q X Y)(n:Ev ⟨b,d,q,X,g,Y⟩ o (.ref a))(e:Y a=some (.bc c j))(p:ji ⟨b,d,q,X,g,Y⟩ i r)(l:autoParam (c.au m=some f) aR)(s:autoParam ((m.kU.all λa=>(eE j a).isNone)=true) aR)(h:autoParam (a6 f<d) aD):W b a6 d q (.au o m i) g Q X Y:=
 n _ (fA e l s (p _ ⟨h,k⟩))
theorem nL {K:Bool->AH->Prop}(h:W a a6 d q (.au o m c) e (λv Y=>v.hN (λb=>K b Y) False) X Y):T a a6 d q (.au o m c) (W a a6 d q (.au o m c)) e K X Y:=h
theorem rA {K:Bool->AH->Prop}(h:W a a6 d q (.call f c) e (λv Y=>v.hN (λb=>K b Y) False) X Y):T a a6 d q (.call f c) (W a a6 d q (.call f c)) e K X Y:=h
theorem rB {K:Bool->AH->Prop}(h:T a a6 c q e (W a a6 c q e) d (λb Y=>K (!b) Y) X Y):T a a6 c q (.dF e) (W a a6 c q (.dF e)) d K X Y:=h
theorem oR {K:Bool->AH->Prop}(h:T a a6 c q e (W a a6 c q e) f (λb Y=>if b=k then Ts a a6 c q k d f K X Y else K b Y) X Y):T a a6 c q (.bV k (.cons e d)) (W a a6 c q (.bV k (.cons e d))) f K X Y:=h
theorem qd {K:Bool->AH->Prop}(h:T a a6 c q e (W a a6 c q e) d (λb Y=>if b=k then Ts a a6 c q k f d K X Y else K b Y) X Y):Ts a a6 c q k (.cons e f) d K X Y:=h
theorem AK (k:hS m (.str l) i Q Y)(f:Ev ⟨a,b,q,X,c,Y⟩ o (.str l))(h:ji ⟨a,b,q,X,c,Y⟩ d i)(g:autoParam (q=false) aR)(e:autoParam ((Kd.str.ou m).isSome=true) aR):W a a6 b q (.au o m d) c Q X Y:=f _ (aS g e (h _ ⟨rfl,k⟩))
theorem aaw (k:hS m (.bytes l) i Q Y)(f:Ev ⟨a,b,q,X,c,Y⟩ o (.bytes l))(h:ji ⟨a,b,q,X,c,Y⟩ d i)(g:autoParam (q=false) aR)(e:autoParam ((Kd.bytes.ou m).isSome=true) aR):W a a6 b q (.au o m d) c Q X Y:=f _ (aS g e (h _ ⟨rfl,k⟩))
theorem qe (k:zb m.kn a n l Q Y)(h:Ev ⟨b,c,q,X,d,Y⟩ o (.ref a))(e:Y a=some (.list n))(j:ji ⟨b,c,q,X,d,Y⟩ f l)(i:autoParam (q=false) aR)(g:autoParam ((Kd.list.ou m).isSome=true) aR):W b a6 c q (.au o m f) d Q X Y:=h _ (lb e (aS i g (j _ (lg e k))))
theorem xA {K:List PV->(AH->Prop)->AH->Prop}(k:lV v Y λl g=>K l g Y)(h:Ev ⟨a,b,q,X,c,Y⟩ (.af j) v):Wi a a6 b q (.af j) (W a a6 b q (.af j)) c K X Y:=h (λv Y=>lV v Y λl g=>K l g Y) k
theorem t7 {K:List PV->(AH->Prop)->AH->Prop}(k:lV v Y λl g=>K l g Y)(h:Ev ⟨a,b,q,X,c,Y⟩ (.aj d n) v):Wi a a6 b q (.aj d n) (W a a6 b q (.aj d n)) c K X Y:=h (λv Y=>lV v Y λl g=>K l g Y) k
theorem dK {K:Bool->AH->Prop}(k:K b Y)(h:Et ⟨a,c,q,X,d,Y⟩ e b):T a a6 c q e (W a a6 c q e) d K X Y:=h _ k
theorem aax (k:R e Y)(d:ji ⟨a,c,q,X,f,Y⟩ b e):Ws a a6 c q b f R X Y:=d _ k
end
section
theorem t8 (k:Ss b a6 d q r (rs a j v) Q X Y)(h:Ev ⟨b,d,q,λc t=>X c t a,a,Y⟩ e v)(l:autoParam (j<a.length) aL):Ss b a6 d q (.cons (.assign (.af j) e) r) a Q X Y:=h _ ⟨l,k⟩
theorem mu (h:W b a6 d q e a (λv Y=>j<a.length/\Ss b a6 d q r (rs a j v) Q X Y) (λc t=>X c t a) Y):Ss b a6 d q (.cons (.assign (.af j) e) r) a Q X Y:=h
theorem jj (m:Ss b a6 f q r a Q X (Y.set z (.bc k (jc g n v))))(h:Ev ⟨b,f,q,λc t=>X c t a,a,Y⟩ e v)(l:Ev ⟨b,f,q,λc t=>X c t a,a,Y⟩ d (.ref z))(j:Y z=some (.bc k g))(i:autoParam ((k.fM n&&Nat.ble g.length 50)=true) aR):Ss b a6 f q (.cons (.assign (.aj d n) e) r) a Q X Y:=
 h _ (l _ (rq j ⟨⟨(V i).1,Nat.le_of_ble_eq_true (V i).2⟩,m⟩))
theorem ee (h:W b a6 d q e a (λO Y=>Ss b a6 d q r a Q X Y) (λc t=>X c t a) Y):Ss b a6 d q (.cons (.expr e) r) a Q X Y:=h
theorem ie (k:Q (.ret v) a Y)(h:Ev ⟨b,d,q,λc t=>X c t a,a,Y⟩ e v):Ss b a6 d q (.cons (.ret e) r) a Q X Y:=h _ k
theorem qf (h:W b a6 d q e a (λv Y=>Q (.ret v) a Y) (λc t=>X c t a) Y):Ss b a6 d q (.cons (.ret e) r) a Q X Y:=h
end
theorem Ms (s:Bs):∀(r:List Bs) (a:Array Nat),((r.map bp).foldl (λa p=>a++(bp s).cps++p.cps) a).toList=a.toList++r.flatMap λp=>s++p
 |[],a=>by simp
 |x::r,a=>by rw[c3,uT,Ms s r];simp[bp,List.append_assoc]
theorem Mu (s:Bs)(a:List Bs):sU s a=gI s a:=by
 unfold sU Txt.join Builtin.Str.glued;cases a with
 |nil=>rfl
 |cons x r=>rw[wj];simp only[List.map_cons,List.drop_one,List.tail_cons,List.headD_cons];rw[Ms];simp[bp]
theorem AL (a:List Bs):gI [] a=a.flatten:=by
 cases a with
 |nil=>rfl
 |cons x r=>rw[wj];simp[List.flatMap_def]
theorem Mw (n:Nat):∀(ls:List Bs) (k:Nat),(ls.map bp).foldl (λa x=>a+x.length+n) k=k+(ls.map List.length).sum+ls.length*n
 |[],k=>by simp
 |x::r,k=>by
  rw[c3,uT,Mw n r];simp only[List.map_cons,List.sum_cons,List.length_cons];have e:(bp x).length=x.length:=by unfold bp Str.length;simp
  rw[e,Nat.add_mul];lia
theorem EY {ls:List Bs}(a:(ls.map List.length).sum+ls.length*s.length<=aI):JoinOk (bp s) (ls.map bp)=true:=by
 unfold JoinOk;rw[←Array.foldl_toList,List.toList_toArray,Mw];have e:(bp s).length=s.length:=by unfold bp Str.length;simp
 rw[e,lI];unfold Builtin.Str.tooLong;rw[Bool.not_eq_true',decide_eq_false_iff_not];have:sizeLine=16777216∨True:=.inr trivial;rw[jR];unfold aI at a;omega
theorem AM {g:d->PV}(h:∀a,f (g a)=some a):(b:List d)->pE f (b.map g)=some b:=
 List.rec rfl λx r c=>by rw[c3,pE,h,c];rfl
theorem t9 (a:List Bs):kR (a.map .str)=some a:=AM (g:=.str) (λO=>rfl) a
theorem EZ (a:List Bs):mW (a.map .bytes)=some a:=AM (g:=.bytes) (λO=>rfl) a
theorem E0 (a:List Int):vR (a.map .int)=some a:=AM (g:=.int) (λO=>rfl) a
theorem E1 (a:List Bool):vS (a.map .bool)=some a:=AM (g:=.bool) (λO=>rfl) a
theorem Mx (l:Bs):(l.map λc=>([c]:Bs)).flatten=l:=by
 induction l with
 |nil=>rfl
 |cons x r a=>simp[a]
theorem My (l:Bs):((l.map λc=>([c]:Bs)).map List.length).sum=l.length:=by
 induction l with
 |nil=>rfl
 |cons x r a=>simp at a⊢;lia
section
variable (C:Ck a){Q:PV->AH->Prop}
include C
noncomputable def dY (f n:Bs):Bs:=if f=[] then n else f++[47]++n
theorem Mz (b:f.length+n.length+1<=aI)(k:Q (.bytes (dY f n)) Y):a q .vC [.bytes f,.bytes n] Q X Y:=by
 refine aZ Y0 C ?_;w_up;k_go;unfold dY at k;refine nK (λe=>?_) λe=>?_
 ·rw[aG (bG.mp e)] at k;exact k
 ·rw[aH (by simpa using e)] at k
  exact iG (show f.length+1<=aI by exact OY (by assumption)) (iG (by rw[bR];show f.length+1+_<=aI;exact sr (by assumption)) k)
theorem aay (b:n<1000)(k:Q (.bytes (List.replicate n 0)) Y):a false .vB [.int n] Q X Y:=by refine aZ YY C ?_;w_up;k_go;exact⟨rfl,aE (r:=PV.bytes (List.replicate n 0)) (aG ⟨fH n,i7.mpr bW⟩) k⟩
theorem AN (f:∀c∈l,c<256)(b:l.length<=aI)(k:∀g,ay Y g->Q (.str l) g):a false .qF [.bytes l] Q X Y:=by
 refine aZ YT C ?_;w_up;k_go;refine gm rfl rfl rfl (by rw[aW];exact b) (ib (λx=>x.cu (λi=>some (.str [i.toNat])) (some x)) trivial _ [] (λx m K p=>?_) ?_)
 ·refine ai (bJ.mp m) λc d h=>?_;subst h
  have d:=f c d;exact aS (bl) rfl (aE (aG ⟨fH c,i7.mpr (by assumption)⟩) p)
 ·have e:(l.map λ(c:Nat)=>PV.int c).filterMap (λx=>x.cu (λi=>some (.str [i.toNat])) (some x))=(l.map λc=>([c]:Bs)).map .str:=by
   clear f b k
   induction l with
   |nil=>rfl
   |cons x r n=>exact br (PV.str [x]::·) n
  rw[gH,e];refine⟨by rw[aW,aW];exact b,λz j=>⟨rfl,oP (AH.a9 ..) (aE (t9 _) ⟨EY (by rw[My];show l.length+_*0<=aI;assumption),?_⟩)⟩⟩;rw[Mu,AL,Mx];exact k _ (ay.set j _)
end
section
variable (C:Ck b)
include C
omit C in
theorem map_some (f:c->PV)(g:PV->Option PV)(k:c->PV)(h:∀a,g (f a)=some (k a)):∀l:List c,(l.map f).filterMap g=l.map k
 |[]=>rfl
 |a::l=>by refine B c3 (B mK (B (h a) (B (map_some f g k h l) ?_)));rfl
theorem xB (p:∀c∈l,c<256)(n:l.length<=aI)(k:∀a,ay Y a->Q (.bytes l) a):b false .og [.str l] Q X Y:=by
 refine aZ YU C ?_;w_up;k_go;refine aS rfl (by rw[aW];exact n) (ib (λx=>x.d6 sS (some x)) trivial _ [] (λx m K H=>?_) ?_)
 ·refine ai (bJ.mp m) λc g t=>?_;subst t
  exact aS (bl) rfl (aE rfl H)
 rw[gH,((map_some (λ(c:Nat)=>PV.str [c]) (λx=>x.d6 sS (some x)) (λ(c:Nat)=>PV.int c) (λc=>rfl) l).trans (cV ..).symm)];refine⟨by rw[aW,aW];exact n,λz A=>⟨bl,?_⟩⟩;have d:=AH.a9 Y z (.list ((l.map λ(c:Nat)=>((c:Nat):Int)).map .int));have q:=ay.set A (.list ((l.map λ(c:Nat)=>((c:Nat):Int)).map .int));generalize Y.set z (.list ((l.map λ(c:Nat)=>((c:Nat):Int)).map .int))=s at d q;k_go;refine⟨rfl,cQ d (eu (ι:=Option PV) .int (λx=>L1 (.str l) (L1 (.ref z) (Lo x (L0 [])))) (λr a=>a=s/\∀x∈r,¬(x:Int)>255) (λO O=>False) (λx r y a K j D O=>?_) (λO O j=>j.1▸d) (λy a j=>?_) (λO O O f=>f.elim) _ none s ⟨rfl,λx m=>?_⟩)⟩
 ·have h:=j.1;refine B h ⟨bl,?_⟩
  k_go;exact nK (λe=>absurd (cf e) (j.2 x bP)) λO=>D _ _ ⟨rfl,λy m=>j.2 y (cn _ m)⟩
 ·have h:=j.1;refine B h ?_
  k_go;refine⟨rfl,aE (r:=.bytes l) ?_ (k _ q)⟩;have v:(((l.map λ(c:Nat)=>(c:Int)).all λi=>decide (0<=i/\i<256))&&decide ((l.map λ(c:Nat)=>(c:Int)).length<=aI))=true:=by rw[Bool.and_eq_true,bI,aW];exact⟨λi m=>(ai (bJ.mp m) λc g u=>az u (f3 ⟨fH c,by have:=p c g;exact i7.mpr (by assumption)⟩)),f3 n⟩
  have w:(l.map λ(c:Nat)=>(c:Int)).map Int.toNat=l:=by exact B cV ((gF λc O=>rfl).trans (sh l))
  exact(kc d).trans (by rw[E0,sa,aG v,w])
 ·exact ai (bJ.mp m) λc g e=>az e (jv.mpr (Int.le_of_lt_add_one (f5.mpr (p c g))))
theorem aaz (e:Y d=some (.bc .i9 c))(h:eE c .fa=some (.ref f))(g:Y f=some (.dict j a))(i:dr (.bytes p) a=true)(k:Q (.bool (fw a (.bytes p))) Y):b q .vD [.ref d,.bytes p] Q X Y:=by refine aZ Y3 C ?_;w_up;k_go;exact bx e rfl h (aE (lh g i) k)
end
def xC:Bs->List Bs->List (Bs×Bs)
 |_,[]=>[]
 |f,p::r=>(f,p)::xC (dY f p) r
def dM (p:Bs):List (Bs×Bs):=xC [] (c5 47 p)
def kg (p:Bs):Prop:=(∀x∈c5 47 p,x≠[])/\p.length<=1000
noncomputable def rC (y:Bs×Bs):PV:=.av [.bytes y.1,.bytes y.2]
theorem AO (c:Nat):∀l:Bs,(c5 c l).length<=l.length+1
 |[]=>by simp[c5]
 |x::r=>by
  have a:=AO c r;unfold c5;split
  ·simp;assumption
  ·split
   ·simp
   ·rename_i y s e;rw[e] at a;simp at a⊢;exact lH bW
theorem MA (c:Nat):∀l:Bs,((c5 c l).map λx=>x.length+1).sum=l.length+1
 |[]=>by simp[c5]
 |x::r=>by
  have a:=MA c r;unfold c5;split
  ·simp;lia
  ·split
   ·rename_i e;rw[e] at a;simp at a
   ·rename_i y s e;rw[e] at a;simp at a⊢;lia
theorem aaA (f n:Bs):(dY f n).length<=f.length+n.length+1:=by
 unfold dY;split
 ·lia
 ·simp only[List.length_append,List.length_cons,List.length_nil];lia
inductive ua (p:Bs)(z f:Addr)(Y:AH)(r:List Bs)(c:Bs)(b:AH):Prop
 |mk (a:List PV) (d:b f=some (.list a)) (e:b z=some (.list ((c5 47 p).map .bytes))) (g:ay Y b) (h:a++(xC c r).map rC=(dM p).map rC) (i:c.length+(r.map λx=>x.length+1).sum<=1001) (j:a.length+r.length<=1001)
theorem ua.lst (j:ua p z f Y r c b):b z=some (.list ((c5 47 p).map .bytes)):=by obtain⟨O,O,a,O,O,O,O⟩:=j;exact a
theorem ua.next (j:ua p z f Y (y::r) a i)(k:f≠z)(u:Y f=none){P:Prop}(h:∀c,i f=some (.list c)->c.length<=aI->a.length+y.length+1<=aI->ua p z f Y r (dY a y) (i.set f (.list (c++[rC (a,y)])))->P):P:=by
 obtain⟨c,l,m,n,s,d,g⟩:=j;rw[c3,qA] at d;rw[e8] at g;have d:a.length+y.length+1+(r.map λx=>x.length+1).sum<=1001:=by rw[mN a.length,mN a.length];exact d
 exact h c l (vo g dc) (vo d dc) ⟨_,AH.a9 ..,(AH.cJ _ _ k.symm).trans m,λb o e=>(AH.cJ _ _ (λq=>by rw[q,u] at e;injection e)).trans (n b o e),by rw[←s,e6];rfl,aw (n4 (aaA a y) _) d,by rw[bR];exact sr g⟩
section
variable (C:Ck c)
include C
theorem E2 (g:kg p)(k:∀d a,ay Y d->Y a=none->d a=some (.list ((dM p).map rC))->Q (.ref a) d):c false .sy [.bytes p] Q X Y:=by
 refine aZ YZ C ?_;w_up;have D:(c5 47 p).length<=aI:=aw (AO 47 p) (by have:=g.2;unfold aI;exact gG (by assumption) dc);k_go;refine jt rfl rfl rfl (aw g.2 dc) dc (λz hz=>⟨bl,?_⟩);have h:=AH.a9 Y z (.list ((c5 47 p).map .bytes));have G:=ay.set hz (.list ((c5 47 p).map .bytes));generalize Y.set z (.list ((c5 47 p).map .bytes))=I at h G⊢;k_go;refine aS rfl rfl (cQ h ⟨by rw[aW];exact D,ib (Y:=I) (λx=>x.lR (λb=>some (.bool !(b==[]))) (some x)) h _ [] (λx m K kk=>?_) ?_⟩)
 ·refine ai (bJ.mp m) λb hb L=>?_;subst L
  exact⟨bl,kk⟩
 have e2:((c5 47 p).map λb=>!(b==[])).all id=true:=by
  rw[bI];refine λb m=>ai (bJ.mp m) λy my M=>az M ?_;have:=g.1 y my;cases y with
  |nil=>exact absurd rfl this
  |cons O O=>rfl
 rw[gH,((map_some PV.bytes _ (λb=>PV.bool !(b==[])) (λO=>rfl) _).trans (cV ..).symm)];refine⟨by rw[aW,aW];exact D,λy A=>aE (r:=.bool true) ?_ ?_⟩
 ·exact(kc (AH.a9 ..)).trans (by rw[E1];exact br (λb=>some (PV.bool b)) e2)
 have n:=fg (o:=.list (((c5 47 p).map λb=>!(b==[])).map .bool)) A h;have t:=G.trans (ay.set A (.list (((c5 47 p).map λb=>!(b==[])).map .bool)));generalize I.set y (.list (((c5 47 p).map λb=>!(b==[])).map .bool))=J at n t⊢;x_go;refine dB rfl (sk ?_);k_go;refine⟨cI _,λf e=>jt dc rfl rfl (bl) (bl) ?_⟩;have H:Y f=none:=t.none e;have w:=AH.a9 J f (.list []);have N:f≠z:=λq=>by rw[q,n] at e;injection e
 have s:=fg (o:=.list []) e n;have U:=t.trans (ay.set e (.list []));generalize J.set f (.list [])=d8 at w s U⊢;k_go;refine⟨rfl,cQ s ?_⟩;refine EW (ι:=Bs×Option PV) .bytes (λy=>L1 (.bytes p) (L1 (.ref z) (L1 (.ref f) (L1 (.bytes y.1) (Lo y.2 (L0 [])))))) (λr y d=>ua p z f Y r y.1 d) (λO O=>False) (λy r v d K j kn O=>?_) (λO O O j=>j.lst) (λy d j=>?_) (λO O O f=>f.elim) (c5 47 p) ([],none) d8
  ⟨[],w,s,U,rfl,by rw[MA,yE,lI];exact fZ g.2,aw (jQ (AO 47 p) 0) (by rw[lI];exact fZ g.2)⟩
 ·refine⟨bl,j.next N H λu i ll lj j=>?_⟩
  k_go;refine lb i (cZ rfl rfl dc (lg i ⟨ll,?_⟩));k_go;exact⟨dc,Mz C lj ⟨bl,kn (_,some (.bytes y)) _ j⟩⟩
 ·obtain⟨u,i,i2,i3,i4,i5⟩:=j
  k_go;exact k d f i3 H (B i (az i4 (br (λl=>some (bS.list l)) (eB u).symm)))
end
section
variable (g:a->PV)
noncomputable def bg (L:List (Bs×a))(k:Bs)(v:a):List (Bs×a):=if(L.lookup k).isSome then L.map (λy=>if y.1==k then(y.1,v) else y) else L++[(k,v)]
noncomputable def cL (L:List (Bs×a))(k:Bs):List (Bs×a):=L.filter λy=>!(y.1==k)
noncomputable def cm (L:List (Bs×a)):List (PV×PV):=L.map λy=>(.bytes y.1,g y.2)
theorem MB (L:List (Bs×a))(k:Bs):dr (.bytes k) (cm g L)=true:=by unfold dr cm;rw[List.all_map,bI];intro y O;rfl
theorem gU (L:List (Bs×a))(k:Bs):((PV.bytes k).jb&&dr (.bytes k) (cm g L))=true:=MB g L k
theorem nM (L:List (Bs×a))(k:Bs):el (cm g L) (.bytes k)=(L.lookup k).map g:=by
 unfold el cm
 induction L with
 |nil=>rfl
 |cons y r b=>
  refine B c3 (B (mL) (B d0 ?_));have e:PV.beq (.bytes y.1) (.bytes k)=(k==y.1):=by unfold PV.beq;exact B Bool.beq_comm rfl
  refine B e ?_;cases k==y.1
  ·exact b
  ·rfl
theorem qg (L:List (Bs×a))(k:Bs):fw (cm g L) (.bytes k)=(L.lookup k).isSome:=by
 unfold fw cm
 induction L with
 |nil=>rfl
 |cons y r b=>
  refine B c3 (B kM (B d0 (B b ?_)));have e:PV.beq (.bytes y.1) (.bytes k)=(k==y.1):=by unfold PV.beq;exact B Bool.beq_comm rfl
  refine B e ?_;cases k==y.1<;>rfl
theorem AP (L:List (Bs×a))(k:Bs)(v:a):fx (cm g L) (.bytes k) (g v)=cm g (bg L k v):=by
 unfold fx bg;rw[qg];split
 ·unfold cm
  refine B cV (B cV (gF λy O=>((?_:(if(y.1==k)=true then _ else _)=((PV.bytes (if(y.1==k)=true then(y.1,v) else y).1),g (if(y.1==k)=true then(y.1,v) else y).2)):(if PV.beq (.bytes y.1) (.bytes k)=true then _ else _)=_)));split<;>rfl
 ·unfold cm;refine B cF ?_;rfl
theorem E3 (L:List (Bs×a))(k:Bs):pB (cm g L) (.bytes k)=cm g (cL L k):=by unfold pB cL cm;refine B List.filter_map ?_;rfl
theorem rD (L:List (Bs×a)):(cm g L).length=L.length:=by unfold cm;rw[aW]
theorem kh (L:List (Bs×a))(k:Bs)(v:a)(b:Bs):(bg L k v).lookup b=if b=k then some v else L.lookup b:=by
 unfold bg;split
 ·rename_i h
  induction L with
  |nil=>injection h
  |cons y r f=>
   rw[c3,d0];rw[d0] at h⊢;by_cases e:y.1=k
   ·subst e
    simp only[beq_self_eq_true,if_true];by_cases c:b=y.1
    ·subst c;simp
    ·have:(b==y.1)=false:=by simpa using c
     simp only[this,if_neg c];by_cases d:(r.lookup y.1).isSome=true
     ·rw[f d,aH c]
     ·have:r.map (λz=>if z.1==y.1 then(z.1,v) else z)=r:=by
       conv=>rhs;rw[←sh r]
       refine gF λz j=>?_;have:z.1≠y.1:=λq=>d (by rw[Option.isSome_iff_ne_none];intro n;have:=rX.mp n z j;simp[q] at this)
       simp[this]
      exact B this rfl
   ·have e1:(y.1==k)=false:=by simpa using e
    simp only[e1,Bool.false_eq_true,if_false];rw[(by simpa using λq=>e q.symm:(k==y.1)=false)] at h;by_cases c:b=y.1
    ·refine B c ?_;simp[e]
    ·have:(b==y.1)=false:=by simpa using c
     simp only[this];exact(f h)
 ·rename_i h
  refine B uL ?_;have i:L.lookup k=none:=by
   cases q:L.lookup k with
   |none=>rfl
   |some v=>have h:=q▸h;exact absurd rfl h
  by_cases e:b=k
  ·refine B e ?_;simp[i]
  ·have:(b==k)=false:=by simpa using e
   simp[if_neg e,List.lookup_cons,this]
theorem xD (L:List (Bs×a))(k b:Bs):(cL L k).lookup b=if b=k then none else L.lookup b:=by
 unfold cL
 induction L with
 |nil=>simp
 |cons y r d=>
  refine B kL ?_;by_cases e:y.1=k
  ·have e1:(y.1==k)=true:=by simpa using e
   simp only[e1,Bool.not_true,Bool.false_eq_true,if_false];refine B d (B d0 ?_);by_cases c:b=k
   ·simp[c]
   ·have:(b==y.1)=false:=by refine B e ?_;simpa using c
    simp[if_neg c,this]
  ·have e1:(y.1==k)=false:=by simpa using e
   simp only[e1,Bool.not_false,if_true];refine B d0 (B d0 (B d ?_));by_cases c:b=y.1
   ·refine B c ?_;simp[e]
   ·have:(b==y.1)=false:=by simpa using c
    simp[this]
end
noncomputable def qh (o:Bs):PV:=.av [.bytes o,.int 33188]
noncomputable def fS (n:Nat):PV:=.int n
abbrev gV:=List (Bs×Addr×List (Bs×Nat))
structure gi where
 d:Addr
 f:Addr
 b:Addr
 F:List (Bs×Bs)
 H:gV
structure cU (Y:AH)(D:gi):Prop where
 dk:Y D.d=some (.bc .i9 [(.left,.none),(.fa,.ref D.f),(.below,.ref D.b)])
 fl:∃a,Y D.f=some (.dict a (cm qh D.F))
 bl:∃a,Y D.b=some (.dict a (cm (λy:Addr×List (Bs×Nat)=>.ref y.1) D.H))
 sub:∀y∈D.H,∃a,Y y.2.1=some (.dict a (cm fS y.2.2))
 fb:D.f≠D.b
 fB:∀y∈D.H,y.2.1≠D.f/\y.2.1≠D.b
 nd:(D.H.map (·.2.1)).Nodup
 kn:(D.H.map (·.1)).Nodup
theorem aaC (f b:Addr):eE [(.left,.none),(.fa,.ref f),(.below,.ref b)] .left=some .none:=rfl
theorem rE (f b:Addr):eE [(.left,.none),(.fa,.ref f),(.below,.ref b)] .fa=some (.ref f):=rfl
theorem ub (f b:Addr):eE [(.left,.none),(.fa,.ref f),(.below,.ref b)] .below=some (.ref b):=rfl
def gi.de (D:gi) (a:Addr):Prop:=a=D.d∨a=D.f∨a=D.b∨∃y∈D.H,a=y.2.1
theorem cU.ext (x:cU Y D)(e:ay Y b):cU b D:=
 ⟨e _ _ x.dk,(Ke x.fl λa h=>⟨a,e _ _ h⟩),(Ke x.bl λa h=>⟨a,e _ _ h⟩),λy m=>(Ke (x.sub y m) λa h=>⟨a,e _ _ h⟩),x.fb,x.fB,x.nd,x.kn⟩
section
variable (C:Ck b)(x:cU Y D)
include C x
theorem aaD (k:Q (.bool (D.F.lookup p).isSome) Y):b q .vD [.ref D.d,.bytes p] Q X Y:=by exact Ke x.fl λa e=>aaz C x.dk rfl e (MB _ _ _) (by rw[qg];exact k)
theorem aaE (k:Q (.bool (p==[]||(D.H.lookup p).isSome)) Y):b q .yN [.ref D.d,.bytes p] Q X Y:=by
 refine Ke x.bl λc e=>aZ Y4 C ?_;w_up;k_go;by_cases a:p=[]
 ·rw[a] at k⊢;exact k
 ·rw[eA.mpr a] at k⊢
  exact bx x.dk rfl (ub D.f D.b) (aE (lh e (gU _ _ _)) (by rw[qg];exact k))
theorem E4 (a:D.F.lookup p=some o)(k:Q (qh o) Y):b q .BL [.ref D.d,.bytes p] Q X Y:=by
 refine Ke x.fl λc e=>aZ Y6 C ?_;w_up;k_go;refine bx x.dk rfl (rE D.f D.b) (aE (r:=false) ?_ (jJ (sk ?_)))
 ·refine(?_:(oq Y (.bytes p) (.ref D.f)).map (!·)=_)
  rw[lh e (gU _ _ _),qg,a];rfl
 k_go;exact bx x.dk rfl (rE D.f D.b) (aE (gQ e (gU _ _ _) (by rw[nM,a];rfl)) k)
theorem aaF (a:D.F.lookup p=some o)(k:Q (.bytes o) Y):b q .yM [.ref D.d,.bytes p] Q X Y:=by refine aZ Y2 C ?_;w_up;k_go;exact cX x.dk rfl rfl dc (E4 C x a (aE rfl k))
theorem AQ (k:Q .none Y):b q .BM [.ref D.d] Q X Y:=by refine aZ Y7 C ?_;w_up;k_go;refine bx x.dk rfl (aaC D.f D.b) ?_;x_go;exact dB rfl (sk (sn k))
end
section
variable (C:Ck c)(x:cU Y D)
include C x
theorem MC (q:kg p)(l:D.H.lookup p=none)(n:∀y∈dM p,D.F.lookup y.1=none)(k:∀b,ay Y b->Q .none b):c false .BO [.ref D.d,.bytes p] Q X Y:=by
 obtain⟨t,e⟩:=x.bl;refine aZ Za C ?_;w_up;k_go;refine bx x.dk rfl (ub D.f D.b) (aE (r:=false) ((lh e (gU _ _ _)).trans (by rw[qg,l];rfl)) (jJ (sk ?_)));k_go;refine aS rfl dc (E2 C q λi a e1 v g=>cQ g ?_);have h:=x.ext e1;obtain⟨u,e2⟩:=h.fl;refine eu (ι:=Option PV×Option PV) rC (λy=>L1 (.ref D.d) (L1 (.bytes p) (Lo y.1 (Lo y.2 [])))) (λr b=>b=i/\∀y∈r,D.F.lookup y.1=none) (λO O=>False) (λz r y b K j s O=>?_) (λO O j=>j.1▸g) (λy b j=>?_) (λO O O f=>f.elim) (dM p) (none,none) i ⟨rfl,n⟩
 ·have d:=j.1;refine B d (gm rfl rfl (bl) (bl) ?_)
  k_go;exact bx h.dk rfl (rE D.f D.b) (aE (r:=false) ((lh e2 (gU _ _ _)).trans (by rw[qg,j.2 z bP];rfl)) (jJ (sn (s (_,_) _ ⟨rfl,λy m=>j.2 y (cn _ m)⟩))))
 ·have d:=j.1;exact B d (tn (sn (k _ e1)))
end
structure dd (D:gi)(Y:AH)(c:gi)(b:AH):Prop where
 bh:∀a,Y a≠none->¬D.de a->b a=Y a
 eM:∀a,c.de a->D.de a∨Y a=none
 bO:∀a,b a=none->Y a=none
theorem dd.refl (D:gi)(Y:AH):dd D Y D Y:=⟨λO O O=>rfl,λO h=>.inl h,λO h=>h⟩
theorem dd.trans (a:dd D Y c g)(b:dd c g d h):dd D Y d h:=
 ⟨λx n o=>by have e:=a.bh x n o;exact B (b.bh x (by rw[e];exact n) λf=>(a.eM x f).elim o λz=>n z) (B e rfl),λx o=>(b.eM x o).elim (a.eM x) λz=>.inr (a.bO x z),λx n=>a.bO x (b.bO x n)⟩
theorem dd.ext (e:ay Y b):dd D Y D b:=⟨λa n O=>by
 cases q:Y a with
 |none=>exact absurd q n
 |some o=>exact e a o q,λO h=>.inl h,λa n=>e.none n⟩
noncomputable def gi.bY (D:gi)(H:gV):gi:={D with H:=H}
noncomputable def gi.dh (D:gi)(F:List (Bs×Bs)):gi:={D with F:=F}
def dZ (H:gV) (b n:Bs) (z:Addr):gV:=match H.lookup b with
 |some (a,N)=>H.map λy=>if y.1==b then(b,a,bg N n ((N.lookup n).getD 0+1)) else y
 |none=>H++[(b,z,[(n,1)])]
theorem mx {H:List (Bs×a)}(h:H.lookup k=some v):(k,v)∈H:=by refine fj (uG.mp h) λl r e O=>B e ?_;simp
theorem jK {L:List (Bs×c)}(a:(L.map (·.1)).Nodup)(m:y∈L):L.lookup y.1=some y.2:=by
 induction L with
 |nil=>cases m
 |cons z r b=>
  rw[c3,g9] at a;rw[d0];rcases d4.mp m with e|m
  ·rw[e,ej]
  ·exact B (eA.mpr λq=>a.1 (bJ.mpr (aQ y m q))) (b a.2 m)
theorem aaG {H:List (Bs×b)}(a:(H.map (·.1)).Nodup)(h:H.lookup k=some v)(m:y∈H)(e:y.1=k):y=(k,v):=by rw[←e] at h⊢;exact az (bo ((jK a m).symm.trans h)) rfl
noncomputable def cO (H:gV)(b:Bs)(a:Addr)(c:List (Bs×Nat)):gV:=H.map λy=>if y.1==b then(b,a,c) else y
theorem cU.E5 {D:gi}(x:cU Y D)(h:D.H.lookup d=some (a,N))(f:List (Bs×Nat))(s:Nat):
  cU (Y.set a (.dict s (cm fS (f)))) (D.bY (cO D.H d a f))/\dd D Y (D.bY (cO D.H d a f)) (Y.set a (.dict s (cm fS (f)))):=by
 have m:=mx h;have l:cO D.H d a f=D.H.map λy=>if y.1==d then(d,a,f) else y:=rfl
 have r:∀y∈D.H,(if y.1==d then(d,a,f) else y).2.1=y.2.1:=λy c=>by
  by_cases e:y.1=d
  ·have:=aaG x.kn h c e
   exact B (aG (by simpa using e)) (B this rfl)
  ·exact B (aH (by simpa using e)) rfl
 have names:∀y∈D.H,(if y.1==d then(d,a,f) else y).1=y.1:=λy c=>by
  by_cases e:y.1=d
  ·exact B (aG (by simpa using e)) (B e rfl)
  ·exact B (aH (by simpa using e)) rfl
 have t:=x.fB _ m;have v:D.d≠a:=λq=>by refine Ke (x.sub _ m) λU e=>?_;have:=x.dk;rw[q,show Y a=_ from e] at this;cases this
 have G:∀b,(D.bY (cO D.H d a f)).de b->D.de b:=λb o=>by
  rcases o with o|o|o|⟨y,c,o⟩
  ·exact .inl o
  ·exact .inr (.inl o)
  ·exact .inr (.inr (.inl o))
  ·have c:y∈cO D.H d a f:=c
   rw[l] at c;refine ai (bJ.mp c) λk g w=>?_;subst w;exact .inr (.inr (.inr ⟨k,g,B o (B (r k g) rfl)⟩))
 refine⟨⟨?_,?_,?_,λy c=>?_,x.fb,λy c=>?_,?_,?_⟩,⟨λb O o=>AH.cJ _ _ λq=>o (.inr (.inr (.inr ⟨_,m,q⟩))),λb o=>.inl (G b o),λb n=>by
  by_cases q:b=a
  ·subst q;rw[AH.a9] at n;injection n
  ·rw[AH.cJ _ _ q] at n;exact n⟩⟩
 ·exact(AH.cJ Y _ v).trans x.dk
 ·exact Ke x.fl λe1 e2=>⟨e1,(AH.cJ Y _ t.1.symm).trans e2⟩
 ·refine Ke x.bl λe1 e2=>⟨e1,((AH.cJ Y _ t.2.symm).trans e2).trans ?_⟩
  congr 2;refine((B l ?_):cm _ D.H=cm _ (cO D.H d a f));unfold cm;refine B cV (gF λy c=>(?_:_=(PV.bytes _,PV.ref _)));exact B (names y c) (B (r y c) rfl)
 ·have c:y∈cO D.H d a f:=c
  rw[l] at c;refine ai (bJ.mp c) λk g z=>az z ?_;by_cases e:k.1=d
  ·exact B (aG (by simpa using e)) ⟨s,AH.a9 ..⟩
  ·refine B (aH (by simpa using e)) ?_
   have C:k.2.1≠a:=λq=>by
    refine Ke (List.getElem?_of_mem g) λi u=>Ke (List.getElem?_of_mem m) λj p=>?_;have e1:(D.H.map (·.2.1))[i]? =some a:=by refine B (eZ) (B u ?_);simp[q]
    have e2:(D.H.map (·.2.1))[j]? =some a:=by refine B (eZ) (B p ?_);rfl
    have H:=(yA ((kH.mp e1).1) x.nd).mp (e1.trans e2.symm);subst H;rw[u] at p;have p:=bo p;subst p;exact e rfl
   exact B (AH.cJ _ _ C) (x.sub _ g)
 ·have c:y∈cO D.H d a f:=c
  rw[l] at c;exact ai (bJ.mp c) λk g A=>az A (B (r k g) (x.fB _ g))
 ·exact((B l (B cV (B (gF λy c=>r y c:D.H.map ((·.2.1)∘λy=>if y.1==d then(d,a,f) else y)=D.H.map (·.2.1)) x.nd))):((cO D.H d a f).map (·.2.1)).Nodup)
 ·exact((B l (B cV (B (gF λy c=>names y c:D.H.map ((·.1)∘λy=>if y.1==d then(d,a,f) else y)=D.H.map (·.1)) x.kn))):((cO D.H d a f).map (·.1)).Nodup)
theorem AR (h:H.lookup b=some (a,N))(z:Addr):dZ H b n z=cO H b a (bg N n ((N.lookup n).getD 0+1)):=by unfold dZ cO;exact B h rfl
theorem cU.aaH (x:cU Y D)(h:D.H.lookup c=some (a,N))(z:Addr)(b:Nat):
  cU (Y.set a (.dict b (cm fS (bg N n ((N.lookup n).getD 0+1))))) (D.bY (dZ D.H c n z))/\dd D Y (D.bY (dZ D.H c n z)) (Y.set a (.dict b (cm fS (bg N n ((N.lookup n).getD 0+1))))):=by
 exact B (AR h z) (x.E5 h _ b)
theorem cU.aaI (x:cU Y D)(a:Bs)(d:Nat):cU (Y.set D.b (.dict d (cm (λy:Addr×List (Bs×Nat)=>.ref y.1) (cL D.H a)))) (D.bY (cL D.H a))/\dd D Y (D.bY (cL D.H a)) (Y.set D.b (.dict d (cm (λy:Addr×List (Bs×Nat)=>.ref y.1) (cL D.H a)))):=by
 have f:D.d≠D.b:=λq=>by refine Ke x.bl λO e=>?_;have:=x.dk;have this:=q▸this;have this:=e▸this;cases this
 have c:∀y∈cL D.H a,y∈D.H:=λy m=>(se.mp m).1;refine⟨⟨(AH.cJ Y _ f).trans x.dk,?_,⟨d,AH.a9 ..⟩,λy m=>?_,x.fb,λy m=>x.fB y (c y m),?_,?_⟩,⟨λb O o=>AH.cJ _ _ λq=>o (.inr (.inr (.inl q))),λb o=>?_,λb e=>?_⟩⟩
 ·exact Ke x.fl λe1 e2=>⟨e1,(AH.cJ Y _ x.fb).trans e2⟩
 ·exact Ke (x.sub y (c y m)) λe1 e2=>⟨e1,(AH.cJ Y _ (x.fB y (c y m)).2).trans e2⟩
 ·exact x.nd.sublist (List.Sublist.map _ List.filter_sublist)
 ·exact x.kn.sublist (List.Sublist.map _ List.filter_sublist)
 ·rcases o with o|o|o|⟨y,m,o⟩
  ·exact .inl (.inl o)
  ·exact .inl (.inr (.inl o))
  ·exact .inl (.inr (.inr (.inl o)))
  ·exact .inl (.inr (.inr (.inr (aQ y (c y m) o))))
 ·by_cases q:b=D.b
  ·subst q;rw[AH.a9] at e;injection e
  ·have e:=(AH.cJ _ _ q)▸e;exact e
theorem cU.aaJ (x:cU Y D)(h:D.H.lookup a=none)(j:Y z=none)(g:∃d,σ' D.b=some (.dict d (cm (λy:Addr×List (Bs×Nat)=>.ref y.1) (dZ D.H a n z))))(I:∃d,σ' z=some (.dict d (cm fS [(n,1)])))(k:∀b,b≠D.b->b≠z->σ' b=Y b):
  cU σ' (D.bY (dZ D.H a n z))/\dd D Y (D.bY (dZ D.H a n z)) σ':=by
 have i:dZ D.H a n z=D.H++[(a,z,[(n,1)])]:=by unfold dZ;exact B h rfl
 have f:∀b,Y b≠none->b≠z:=λb n q=>n (q▸j);have C:D.d≠z:=f _ (B x.dk (λz=>(by cases z)));have s:D.f≠z:=f _ (Ke x.fl λO e=>B e (λz=>(by cases z)));have A:∀y∈D.H,y.2.1≠z:=λy m=>f _ (Ke (x.sub y m) λO e=>B e (λz=>(by cases z)));have H:D.d≠D.b:=λq=>by refine Ke x.bl λO e=>?_;have:=x.dk;have this:=q▸this;have this:=e▸this;cases this
 have l:∀y∈dZ D.H a n z,y∈D.H∨y=(a,z,[(n,1)]):=λy m=>by
  have m:=i▸m;rcases hG.mp m with m|m
  ·exact .inl m
  ·exact .inr (eR.mp m)
 refine⟨⟨(k _ H C).trans x.dk,?_,g,λy c=>?_,x.fb,λy c=>?_,?_,?_⟩,⟨λb J o=>k b (λq=>o (.inr (.inr (.inl q)))) (f b J),λb o=>?_,λb e=>?_⟩⟩
 ·exact Ke x.fl λe1 e2=>⟨e1,(k _ x.fb s).trans e2⟩
 ·rcases l y c with m|rfl
  ·exact Ke (x.sub y m) λd e=>⟨d,(k _ (x.fB y m).2 (A y m)).trans e⟩
  ·exact I
 ·rcases l y c with m|rfl
  ·exact x.fB y m
  ·exact⟨s.symm,(f _ (Ke x.bl λO e=>B e (λz=>(by cases z)))).symm⟩
 ·refine(?_:((dZ D.H a n z).map (·.2.1)).Nodup)
  rw[i,cF,kI];refine aS x.nd (by simp) (λu p v r=>ai (List.mem_map.mp p) λy c G=>?_);subst G;have:v=z:=by simpa using r
  exact B this (A y c)
 ·refine(?_:((dZ D.H a n z).map (·.1)).Nodup)
  rw[i,cF,kI];refine aS x.kn (by simp) (λu p v r=>ai (List.mem_map.mp p) λy c U=>?_);subst U;have:v=a:=by simpa using r
  refine B this ?_;intro q;have:=rX.mp h y c;simp[q] at this
 ·rcases o with o|o|o|⟨y,c,o⟩
  ·exact .inl (.inl o)
  ·exact .inl (.inr (.inl o))
  ·exact .inl (.inr (.inr (.inl o)))
  ·rcases l y c with m|rfl
   ·exact .inl (.inr (.inr (.inr (aQ y m o))))
   ·exact .inr (B o j)
 ·by_cases t:b=D.b
  ·subst t;refine Ke g λO g=>?_;have e:=g▸e;injection e
  ·by_cases w:b=z
   ·exact B w j
   ·exact az (k b t w) e
def MD:cS:=.cons (.assign (.af 6) (.au (.aj (.af 0) .below) .oh (.cons (.af 4) (.cons (.dict .nil) .nil))))
 (.cons (.assign (.item (.af 6) (.af 5)) (.bq .add (.au (.af 6) .get (.cons (.af 5) (.cons (.ab (.int 0)) .nil))) (.ab (.int 1)))) .nil)
theorem aaK (k:Q (fS ((N.lookup n).getD 0+1)) Y):iA .add ((el (cm fS N) (.bytes n)).getD (.int 0)) (.int 1) Q Y:=by
 have e:(el (cm fS N) (.bytes n)).getD (.int 0)=.int (((N.lookup n).getD 0:Nat):Int):=by rw[nM];cases N.lookup n<;>rfl
 exact B e (h9 k)
section
variable {K:Fl->aP->AH->Prop}
theorem aaL (x:cU Y D)(w:D.H.length<=1000000)(A:∀y∈D.H,y.2.2.length<=1000000)
  (k:∀σ' z I,cU σ' (D.bY (dZ D.H c n z))->dd D Y (D.bY (dZ D.H c n z)) σ'->K .next (L1 (.ref D.d) (Lo s (Lo t (Lo u (L1 (.bytes c) (L1 (.bytes n) (L1 I []))))))) σ'):
  Ss C ht Q false MD (L1 (.ref D.d) (Lo s (Lo t (Lo u (L1 (.bytes c) (L1 (.bytes n) (Lo J []))))))) K X Y:=by
 unfold MD;refine Ke x.bl λL e=>?_;have G:(cm (λy:Addr×List (Bs×Nat)=>PV.ref y.1) D.H).length<=aI:=by rw[rD];exact aw w dc
 k_go;refine bx x.dk rfl (ub D.f D.b) (nH e (aS rfl rfl (λd z f=>?_)));have r:=x.ext (ay.set f (.dict d []));have l:D.b≠z:=λq=>by rw[←q,e] at f;injection f
 refine nI (fg (o:=.dict d []) f e) (aS (gU _ _ _) G ?_);rw[nM];cases h:D.H.lookup c with
 |some v=>obtain⟨a,N⟩:=v;have m:=mx h;refine Ke (r.sub _ m) λM e2=>⟨bl,?_⟩;k_go;refine nH e2 (aS rfl rfl (nI e2 ⟨gU _ _ _,aaK (jh e2 (aS (gU _ _ _) (by rw[rD];exact aw (A _ m) dc) (λg=>sn ?_)))⟩));rw[AP];have b:=r.aaH (n:=n) h z g;exact k _ z _ b.1 ((.ext (ay.set f _):dd D Y D (Y.set z (.dict d []))).trans b.2)
 |none=>
  refine λg=>⟨bl,?_⟩;have H:fx (cm (λy:Addr×List (Bs×Nat)=>PV.ref y.1) D.H) (.bytes c) (.ref z)=cm (λy:Addr×List (Bs×Nat)=>PV.ref y.1) (dZ D.H c n z):=by refine B (AP (λy:Addr×List (Bs×Nat)=>PV.ref y.1) D.H c (z,[(n,1)]):fx (cm (λy:Addr×List (Bs×Nat)=>PV.ref y.1) D.H) (.bytes c) (.ref z)=cm (λy:Addr×List (Bs×Nat)=>PV.ref y.1) (bg D.H c (z,[(n,1)]))) ?_;unfold bg dZ;refine B h ?_;rfl
  refine B H ?_;have i:((Y.set z (.dict d [])).set D.b (.dict g (cm (λy:Addr×List (Bs×Nat)=>.ref y.1) (dZ D.H c n z)))) z=some (.dict d []):=(AH.cJ _ _ l.symm).trans (AH.a9 ..);k_go;refine nH i (aS rfl rfl (nI i ⟨rfl,h9 (jh i (aS rfl (cI _) (λj=>sn ?_)))⟩));have b:=x.aaJ (σ':=((Y.set z (.dict d [])).set D.b (.dict g (cm (λy:Addr×List (Bs×Nat)=>.ref y.1) (dZ D.H c n z)))).set z (.dict j (cm fS [(n,1)]))) h f
   ⟨g,(AH.cJ _ _ l).trans (AH.a9 ..)⟩ ⟨j,AH.a9 ..⟩ (λb U p=>(AH.cJ _ _ p).trans ((AH.cJ _ _ U).trans (AH.cJ _ _ p)))
  exact k _ z _ b.1 b.2
end
inductive mA:List (Bs×Bs)->gV->gV->Prop
 |nil (H:gV):mA [] H H
 |cons {b n:Bs} {r:List (Bs×Bs)} {H a:gV} (z:Addr) (h:mA r (dZ H b n z) a):mA ((b,n)::r) H a
theorem mA.E6 (x:mA r H b)(a n:Bs)(z:Addr):mA (r++[(a,n)]) H (dZ b a n z):=by
 induction x with
 |nil H=>exact .cons z (.nil _)
 |cons d O c=>exact .cons d c
def jk (k:Nat) (H:gV):Prop:=H.length<=k/\∀y∈H,y.2.2.length<=k
theorem xE (L:List (Bs×a))(k:Bs)(v:a):(bg L k v).length<=L.length+1:=by
 unfold bg;split
 ·rw[aW];exact gn _ _
 ·rw[bR];simp
theorem jk.aaM (s:jk k H)(c n:Bs)(z:Addr):jk (k+1) (dZ H c n z):=by
 unfold dZ;split
 ·rename_i a N h
  refine⟨by rw[aW];exact lH s.1,λy m=>(ai (bJ.mp m) λe d b=>?_)⟩;refine az b ?_;split
  ·have:=s.2 _ (mx h)
   exact aw (xE N n _) (by simp at this⊢;exact this)
  ·exact lH (s.2 e d)
 ·refine⟨by rw[bR];simp;exact s.1,λy m=>?_⟩
  rcases hG.mp m with m|m
  ·exact lH (s.2 y m)
  ·refine B (eR.mp m) ?_;simp
theorem cU.ME (x:cU Y D)(a:List (Bs×Bs))(c:Nat):cU (Y.set D.f (.dict c (cm qh a))) (D.dh a)/\dd D Y (D.dh a) (Y.set D.f (.dict c (cm qh a))):=by
 have d:D.d≠D.f:=λq=>by refine Ke x.fl λO e=>?_;have:=x.dk;have this:=q▸this;have this:=e▸this;cases this
 refine⟨⟨(AH.cJ Y _ d).trans x.dk,⟨c,AH.a9 ..⟩,?_,λy m=>?_,x.fb,x.fB,x.nd,x.kn⟩,⟨λb O n=>AH.cJ _ _ λq=>n (.inr (.inl q)),λb o=>.inl o,λb e=>?_⟩⟩
 ·exact Ke x.bl λe1 e2=>⟨e1,(AH.cJ Y _ x.fb.symm).trans e2⟩
 ·exact Ke (x.sub y m) λe1 e2=>⟨e1,(AH.cJ Y _ (x.fB y m).1).trans e2⟩
 ·by_cases q:b=D.f
  ·subst q;rw[AH.a9] at e;injection e
  ·have e:=(AH.cJ _ _ q)▸e;exact e
theorem dd.CY {E:gi}(c:dd E Y (E.bY k) i)(x:cU j E)(b:j a=none)(d:Y a=some (.list g)):i a=some (.list g):=(c.bh a (B d (λh=>by injection h)) λo=>by
 rcases o with o|o|o|⟨y,f,o⟩
 ·exact nn b (o▸x.dk)
 ·exact Ke x.fl λO e=>nn b (o▸e)
 ·exact Ke x.bl λO e=>nn b (o▸e)
 ·exact Ke (x.sub y f) λO e=>nn b (o▸e)).trans d
inductive KpJ (D:gi)(c:List (Bs×Bs))(d:AH)(r:List (Bs×Bs))(b:AH):Prop
 |mk (dn:List (Bs×Bs)) (a:gV) (e:c=dn++r) (f:mA dn D.H a) (g:jk (500000+dn.length) a) (h:cU b (D.bY a)) (i:dd D d (D.bY a) b)
theorem MF:∀(r:List Bs) (f:Bs),(xC f r).length=r.length
 |[],_=>rfl
 |_::r,f=>by unfold xC;rw[e8,e8,MF r]
theorem MG (a:kg p):(dM p).length<=1001:=by unfold dM;rw[MF];have:=AO 47 p;have:=a.2;lia
section
variable (C:Ck c)(x:cU Y D)
include C x
theorem aaO (I:kg p)(sm:jk 500000 D.H)(hF:D.F.length<=1000000)
  (k:∀d b,(D.F.lookup p=none->mA (dM p) D.H b)->((D.F.lookup p).isSome=true->b=D.H)->cU d ((D.bY b).dh (bg D.F p o))->dd D Y ((D.bY b).dh (bg D.F p o)) d->Q .none d):
  c false .yQ [.ref D.d,.bytes p,.bytes o,.int 33188] Q X Y:=by
 refine aZ Zb C ?_;have J:∀(d:AH) (b:gV) (u w A:Option PV),cU d (D.bY b)->dd D Y (D.bY b) d->(D.F.lookup p=none->mA (dM p) D.H b)->((D.F.lookup p).isSome=true->b=D.H)->
   Ss c a6 4 false (.cons (.assign (.item (.aj (.af 0) .fa) (.af 1)) (.tuple (.cons (.bi .bytes (.cons (.af 2) .nil)) (.cons (.af 3) .nil)))) .nil) (L1 (.ref D.d) (L1 (.bytes p) (L1 (.bytes o) (L1 (.int 33188) (Lo u (Lo w (Lo A []))))))) (cj Q) (h8 X) d:=by
  refine λd b u w A q cg L M=>Ke q.fl λef e=>?_;k_go;refine⟨rfl,aE (r:=PV.bytes o) rfl ⟨dc,bx (show d D.d=_ from q.dk) rfl (rE D.f D.b) (jh (show d D.f=_ from e) (aS (gU _ _ _) (by rw[rD];exact aw hF dc) (λwD=>sn (B (show fx (cm qh (D.bY b).F) (.bytes p) (.av [.bytes o,.int 33188])=cm qh (bg D.F p o) from AP qh D.F p o) ?_))))⟩⟩;have y:=q.ME (bg D.F p o) wD;exact k _ b L M y.1 (cg.trans y.2)
 w_up;refine Ke x.fl λef e=>?_;k_go;refine bx x.dk rfl (rE D.f D.b) (aE (r:=!(D.F.lookup p).isSome) (show(oq Y (.bytes p) (.ref D.f)).map (!·)=_ by rw[lh e (gU _ _ _),qg];rfl) ?_);cases U:D.F.lookup p with
 |some v=>exact dB rfl (sk (J Y D.H _ _ _ x (.refl D Y) (λz=>by rw[U] at z;injection z) λO=>rfl))
 |none=>
  refine gR rfl ?_;k_go;refine aS rfl dc (E2 C I λt a e1 na H=>cQ H ?_);have G:∀{dn r:List (Bs×Bs)},dM p=dn++r->500000+dn.length<=1000000:=λg=>aw (jQ (aw (by refine B g (B bR ?_);exact gn _ _) (MG I)) _) dc;refine eu (ι:=Option PV×Option PV×Option PV) rC (λy=>L1 (.ref D.d) (L1 (.bytes p) (L1 (.bytes o) (L1 (.int 33188) (Lo y.1 (Lo y.2.1 (Lo y.2.2 []))))))) (KpJ D (dM p) t) (λO O=>False)
   (λz r y d K i kn O=>?_) (λxs d i=>?_) (λy d i=>?_) (λO O O f=>f.elim) (dM p) (none,none,none) t ⟨[],D.H,rfl,.nil _,sm,x.ext e1,.refl D t⟩
  ·obtain⟨dn,b,g,l,j,n,h⟩:=i
   exact gm rfl rfl (bl) (bl) (aaL (D:=D.bY b) n (aw j.1 (G g)) (λy m=>aw (j.2 y m) (G g)) λAS s v6 d2 N=>kn (_,_,_) _ ⟨dn++[z],dZ b z.1 z.2 s,by rw[g,e6];rfl,l.E6 z.1 z.2 s,by refine B bR ?_;exact j.aaM z.1 z.2 s,d2,h.trans N⟩)
  ·obtain⟨O,O,O,O,O,O,h⟩:=i
   exact h.CY x na H
  ·obtain⟨dn,b,g,l,j,n,h⟩:=i
   rw[eB] at g;exact tn (sk (J d b _ _ _ n ((dd.ext e1).trans h) (λO=>by exact B g l) (λz=>by rw[U] at z;injection z)))
end
def iH (N:List (Bs×Nat)) (n:Bs):List (Bs×Nat):=if(N.lookup n).getD 0-1=0 then cL (bg N n ((N.lookup n).getD 0-1)) n else bg N n ((N.lookup n).getD 0-1)
def ki (H:gV) (b n:Bs):gV:=match H.lookup b with
 |some (a,N)=>if(iH N n).isEmpty then cL (cO H b a (iH N n)) b else cO H b a (iH N n)
 |none=>H
theorem qi (d:(H.map (·.1)).Nodup)(h:H.lookup b=some (a,N))(k:Bs):(cO H b a c).lookup k=if k=b then some (a,c) else H.lookup k:=by
 have e:cO H b a c=bg H b (a,c):=by
  unfold cO bg;rw[h];simp only[Option.isSome_some,if_true];refine gF λy f=>?_;by_cases e:y.1=b
  ·simp[e]
  ·simp[e]
 rw[e,kh]
theorem aaP:cO (cO H b a N) b a c=cO H b a c:=by
 unfold cO;refine B cV (gF λy d=>?_);by_cases e:y.1=b
 ·simp[e]
 ·simp[e]
def MH:cS:=.cons (.assign (.af 4) (.item (.aj (.af 0) .below) (.af 2)))
 (.cons (.y5 (.af 4) (.af 3) .sub (.ab (.int 1)))
 (.cons (.a7 (.aM .eq (.item (.af 4) (.af 3)) (.ab (.int 0))) (.cons (.expr (.au (.af 4) .fJ (.cons (.af 3) .nil))) .nil) .nil)
 (.cons (.a7 (.aM .eq (.af 4) (.dict .nil)) (.cons (.expr (.au (.aj (.af 0) .below) .fJ (.cons (.af 2) .nil))) .nil) .nil) .nil)))
section
variable {K:Fl->aP->AH->Prop}
theorem aaQ (x:cU Y D)(h:D.H.lookup b=some (a,N))(hn:N.lookup n=some (c+1))(hB:D.H.length<=1000000)(L:N.length<=1000000)
  (k:∀U v4,cU U (D.bY (ki D.H b n))->dd D Y (D.bY (ki D.H b n)) U->K .next (L1 (.ref D.d) (Lo I (L1 (.bytes b) (L1 (.bytes n) (L1 v4 []))))) U):
  Ss C ht hc false MH (L1 (.ref D.d) (Lo I (L1 (.bytes b) (L1 (.bytes n) (Lo a4 []))))) K X Y:=by
 unfold MH;refine Ke x.bl λeb e=>Ke (x.sub _ (mx h)) λen e2=>?_;have e2:Y a=some (.dict en (cm fS N)):=e2;k_go;refine bx x.dk rfl (ub D.f D.b) (aE (gQ e (gU _ _ _) (by rw[nM,h];rfl)) ⟨bl,?_⟩);k_go;refine aE (gQ (r:=.int ((c+1:Nat):Int)) e2 (gU _ _ _) (by rw[nM,hn];rfl)) (aE rfl (jh e2 (aS (gU _ _ _) (by rw[rD];exact aw L dc) (λt=>?_))));rw[(by lia:((c+1:Nat):Int)-1=((c:Nat):Int))];rw[show fx (cm fS N) (.bytes n) (.int ((c:Nat):Int))=cm fS (bg N n c) from AP fS N n c];refine Ka (x.E5 h (bg N n c) t) λG v=>?_;have s:(Y.set a (.dict t (cm fS (bg N n c)))) a=some (.dict t (cm fS (bg N n c))):=AH.a9 ..;generalize Y.set a (.dict t (cm fS (bg N n c)))=cN at G v s⊢;have J:(bg N n c).lookup n=some c:=by rw[kh,aG rfl]
 have M:iH N n=if c=0 then cL (bg N n c) n else bg N n c:=by unfold iH;rw[hn];simp
 have last:∀(f:AH) (d:List (Bs×Nat)),cU f (D.bY (cO D.H b a d))->dd D Y (D.bY (cO D.H b a d)) f->d=iH N n->
   Ss C ht hc false (.cons (.a7 (.aM .eq (.af 4) (.dict .nil)) (.cons (.expr (.au (.aj (.af 0) .below) .fJ (.cons (.af 2) .nil))) .nil) .nil) .nil) (L1 (.ref D.d) (Lo I (L1 (.bytes b) (L1 (.bytes n) (L1 (.ref a) []))))) K X f:=by
  intro f d xd cg hN';have hl:(cO D.H b a d).lookup b=some (a,d):=by rw[qi x.kn h,aG rfl]
  refine Ke (xd.sub _ (mx hl)) λe4 p=>?_;have p:f a=some (.dict e4 (cm fS d)):=p;k_go;intro g z l;have za:a≠z:=λq=>by rw[←q,p] at l;injection l
  have m:=xd.ext (ay.set l (.dict g []));have w:=cg.trans (.ext (ay.set l (.dict g [])));refine aE (aar (fg (o:=.dict g []) l p) (AH.a9 ..) za) ?_;have Q:(cm fS d).isEmpty=d.isEmpty:=by unfold cm;cases d<;>rfl
  have u:ki D.H b n=if d.isEmpty then cL (cO D.H b a d) b else cO D.H b a d:=by unfold ki;rw[h,hN']
  refine nK (λj=>?_) λj=>?_
  ·rw[Q] at j
   rw[aG j] at u;refine Ke m.bl λe7 r=>?_;have r:(f.set z (.dict g [])) D.b=some (.dict e7 (cm (λy:Addr×List (Bs×Nat)=>.ref y.1) (cO D.H b a d))):=r;k_go;refine bx (m.dk:(f.set z (.dict g [])) D.d=some (.bc .i9 [(.left,.none),(.fa,.ref D.f),(.below,.ref D.b)])) rfl (ub D.f D.b) (nH r (aS rfl rfl (nI r (aS (gU _ _ _) (by rw[rD];unfold cO;rw[aW];exact aw hB dc) (aE ((nM _ _ _).trans (by rw[hl];rfl)) λA=>sk (sn ?_))))));rw[E3];have y:=m.aaI b A;have H:((D.bY (cO D.H b a d)).bY (cL (D.bY (cO D.H b a d)).H b))=D.bY (ki D.H b n):=by rw[u];rfl
   rw[H] at y;exact k _ _ y.1 (w.trans y.2)
  ·rw[Q] at j
   rw[aH (by rw[j];decide)] at u;rw[←u] at m w;exact sk (sn (k _ _ m w))
 k_go;refine aE (gQ (r:=.int (c:Int)) s (gU _ _ _) (by rw[nM,J];rfl)) ?_;x_go;refine nK (λi=>?_) λi=>?_
 ·have i:c=0:=by simpa using i
  k_go;refine nH s (aS rfl rfl (nI s (aS (gU _ _ _) (by rw[rD];exact aw (aw (xE N n c) (n4 L 1)) dc) (aE ((nM _ _ _).trans (by rw[J];rfl)) λA=>sk ?_))));rw[E3];have y:=G.E5 (by rw[qi x.kn h,aG rfl]:(cO D.H b a (bg N n c)).lookup b=some (a,bg N n c)) (cL (bg N n c) n) A;have H:((D.bY (cO D.H b a (bg N n c))).bY (cO (D.bY (cO D.H b a (bg N n c))).H b a (cL (bg N n c) n)))=D.bY (cO D.H b a (cL (bg N n c) n)):=by refine(?_:D.bY (cO (cO D.H b a (bg N n c)) b a (cL (bg N n c) n))=_);rw[aaP]
  rw[H] at y;exact last _ _ y.1 (v.trans y.2) (B M (B (aG i) rfl))
 ·exact sn (last _ _ G v (B M (B (aH (by simpa using i)) rfl)))
end
noncomputable def gj (H:gV)(a n:Bs):Nat:=match H.lookup a with
 |some (_,N)=>(N.lookup n).getD 0
 |none=>0
def jl (F:List (Bs×Bs)) (a n:Bs):Nat:=(F.map λy=>(dM y.1).count (a,n)).sum
def uc (H:gV):Prop:=∀b a N,H.lookup b=some (a,N)->(∃n,N.lookup n≠none)/\(∀n,N.lookup n≠some 0)/\(N.map (·.1)).Nodup
theorem xF (a:(L.map (·.1)).Nodup)(k:Bs)(v:i):((bg L k v).map (·.1)).Nodup:=by
 unfold bg;split
 ·rw[cV,show L.map ((·.1)∘λy=>if y.1==k then(y.1,v) else y)=L.map (·.1) from gF λy O=>by
   refine(?_:(if(y.1==k)=true then(y.1,v) else y).1=y.1);split<;>rfl]
  exact a
 ·rename_i h
  rw[cF,kI];refine aS a (by simp) (λu d g e=>ai (List.mem_map.mp d) λy f b=>az b ?_);have:g=k:=by simpa using e
  refine B this ?_;intro q;have c:L.lookup k=none:=by
   cases r:L.lookup k with
   |none=>rfl
   |some v=>rw[r] at h;exact absurd rfl h
  have:=rX.mp c y f;simp[q] at this
theorem MI {L:List (Bs×b)}(a:(L.map (·.1)).Nodup)(k:Bs):((cL L k).map (·.1)).Nodup:=a.sublist (List.Sublist.map _ List.filter_sublist)
theorem aaS (g:(H.map (·.1)).Nodup)(b n:Bs)(z:Addr)(c d:Bs):gj (dZ H b n z) c d=gj H c d+if(c,d)=(b,n) then 1 else 0:=by
 cases h:H.lookup b with
 |some v=>
  obtain⟨a,N⟩:=v;rw[AR h z];unfold gj;rw[qi g h];by_cases e:c=b
  ·refine B e ?_
   rw[aG rfl,h];dsimp only;rw[kh];by_cases e2:d=n
   ·refine B e2 ?_;simp
   ·rw[aH e2,aH (λq=>e2 (by cases q;rfl))];rfl
  ·rw[aH e,aH (λq=>e (by cases q;rfl))];rfl
 |none=>
  have f:dZ H b n z=H++[(b,z,[(n,1)])]:=by unfold dZ;exact B h rfl
  unfold gj;refine B f (B uL ?_);by_cases e:c=b
  ·refine B e (B h ?_)
   simp only[Option.none_or,List.lookup_cons,beq_self_eq_true];by_cases e2:d=n
   ·refine B e2 ?_;simp
   ·have:(d==n)=false:=by simpa using e2
    refine B (aH (λq=>e2 (by cases q;rfl))) (B this ?_);rfl
  ·have:(c==b)=false:=by simpa using e
   refine B (aH (λq=>e (by cases q;rfl))) (B d0 (B this ?_));cases H.lookup c<;>rfl
theorem aaT (x:mA L H i):(H.map (·.1)).Nodup->uc H->(∀d f,gj i d f=gj H d f+L.count (d,f))/\uc i:=by
 induction x with
 |nil H=>exact λO t=>⟨λO O=>rfl,t⟩
 |cons z h s=>
  rename_i c n r H i;refine λg t=>Ka (s ((by
     cases h:H.lookup c with
     |some v=>
      obtain⟨a,N⟩:=v;refine B (AR h z) ?_;unfold cO;rw[cV,show H.map ((·.1)∘λy=>if y.1==c then(c,a,bg N n ((N.lookup n).getD 0+1)) else y)=H.map (·.1) from gF λy k=>by
       by_cases e:y.1=c
       ·simp[e]
       ·simp[e]]
      exact g
     |none=>
      have j:dZ H c n z=H++[(c,z,[(n,1)])]:=by unfold dZ;exact B h rfl
      rw[j,cF,kI];refine aS g (by simp) (λu w v A=>ai (List.mem_map.mp w) λy k l=>?_);subst l;have:v=c:=by simpa using A
      refine B this ?_;intro q;have:=rX.mp h y k;simp[q] at this)) ((by
     intro d D C b;cases h:H.lookup c with
     |some v=>
      obtain⟨a,N⟩:=v;rw[AR h z,qi g h] at b;by_cases e:d=c
      ·have b:=(aG e)▸b;cases b
       refine aS ⟨n,by rw[kh,aG rfl];exact λz=>(by cases z)⟩ (λf=>?_) (xF (t _ _ _ h).2.2 _ _);rw[kh];split
       ·exact λz=>by cases z
       ·exact(t _ _ _ h).2.1 f
      ·have b:=(aH e)▸b;exact t _ _ _ b
     |none=>
      have j:dZ H c n z=H++[(c,z,[(n,1)])]:=by unfold dZ;rw[h]
      rw[j,uL] at b;cases q:H.lookup d with
      |some v=>have b:=q▸b;cases b;exact t _ _ _ q
      |none=>
       rw[q,Option.none_or,d0] at b;split at b
       ·cases b
        refine aS ⟨n,by simp⟩ (λf=>?_) (by simp);rw[d0];split
        ·exact λz=>by cases z
        ·exact λz=>(by injection z)
       ·injection b))) λm p=>⟨λd f=>?_,p⟩
  rw[m,aaS g,List.count_cons];by_cases e:(d,f)=(c,n)
  ·exact B (aG e) (B (aG (by simpa using e.symm)) (Nat.add_right_comm ..))
  ·have e2:((c,n)==(d,f))=false:=by
    rw[eA];exact λq=>e q.symm
   rw[aH e,e2];simp
structure rF (F:List (Bs×Bs))(H:gV):Prop where
 rG:∀a n,gj H a n=jl F a n
 kj:uc H
theorem aaU {F:List (Bs×Bs)}(o:Bs)(h:F.lookup p=none)(a n:Bs):jl (bg F p o) a n=jl F a n+(dM p).count (a,n):=by unfold jl bg;rw[h];simp
theorem aaV {F:List (Bs×Bs)}(o:Bs)(h:(F.lookup p).isSome=true)(a n:Bs):jl (bg F p o) a n=jl F a n:=by unfold jl bg;refine B (aG h) (B cV ?_);congr 1;refine gF λy O=>(?_:(dM (if(y.1==p)=true then(y.1,o) else y).1).count (a,n)=_);split<;>rfl
theorem rF.bh {F:List (Bs×Bs)}(x:rF F H)(i:(H.map (·.1)).Nodup)(f:F.lookup p=none->mA (dM p) H a)(g:(F.lookup p).isSome=true->a=H):rF (bg F p o) a:=by
 cases h:F.lookup p with
 |none=>exact Ka (aaT (f h) i x.kj) λc d=>⟨λe n=>by rw[c,aaU o h,x.rG],d⟩
 |some v=>
  have b:(F.lookup p).isSome=true:=by refine B h ?_;rfl
  exact B (g b) ⟨λe n=>by rw[aaV o b,x.rG],x.kj⟩
theorem E7 (d:N.lookup n=some (c+1))(b:Bs):(iH N n).lookup b=if b=n then(if c=0 then none else some c) else N.lookup b:=by
 unfold iH;rw[d];simp only[Option.getD_some,Nat.add_sub_cancel];by_cases a:c=0
 ·rw[aG a,aG a,xD,kh]
  split<;>rfl
 ·rw[aH a,aH a,kh]
theorem xG (h:1<=gj H b n):∃a N c,H.lookup b=some (a,N)/\N.lookup n=some (c+1):=by
 unfold gj at h;split at h
 ·rename_i a N e
  cases q:N.lookup n with
  |none=>rw[q] at h;simp at h
  |some v=>
   rw[q] at h;cases v with
   |zero=>simp at h
   |succ c=>exact js a N c e q
 ·exact absurd bW (Nat.lt_irrefl _)
theorem aaW (k:(H.map (·.1)).Nodup)(h:1<=gj H i n)(d f:Bs):gj (ki H i n) d f+(if(d,f)=(i,n) then 1 else 0)=gj H d f:=by
 refine iY (xG h) λa N c e1 e2=>?_;have key:(ki H i n).lookup d=if d=i then(if(iH N n).isEmpty then none else some (a,iH N n)) else H.lookup d:=by
  unfold ki;rw[e1];dsimp only;by_cases b:(iH N n).isEmpty=true
  ·rw[aG b,aG b,xD,qi k e1]
   split<;>rfl
  ·rw[aH b,aH b,qi k e1]
 unfold gj;refine B key ?_;by_cases e:d=i
 ·refine B e ?_
  refine B (aG rfl) (B e1 ?_);by_cases b:(iH N n).isEmpty=true
  ·refine B (aG b) ?_
   dsimp only;have g:=E7 e2 f;rw[(uO.mp b)] at g;by_cases q:f=n
   ·subst q
    rw[aG rfl] at g;refine B (aG rfl) (B e2 ?_);by_cases j:c=0
    ·simp[j]
    ·rw[aH j] at g;cases g
   ·rw[aH q] at g
    rw[aH (λz=>q (by cases z;rfl)),←g];rfl
  ·refine B (aH b) ?_
   dsimp only;rw[E7 e2];by_cases q:f=n
   ·refine B q ?_
    rw[aG rfl,aG rfl,e2];by_cases j:c=0
    ·simp[j]
    ·refine B (aH j) ?_;rfl
   ·rw[aH q,aH (λz=>q (by cases z;rfl))];rfl
 ·refine B (aH e) (B (aH (λz=>e (by cases z;rfl))) ?_);rfl
theorem aaX (e:(H.map (·.1)).Nodup)(t:uc H)(h:1<=gj H g n):uc (ki H g n):=by
 refine iY (xG h) λa N c e1 e2=>?_;intro p m l b;unfold ki at b;have b:=e1▸b;dsimp only at b;by_cases d:(iH N n).isEmpty=true
 ·rw[aG d,xD] at b
  split at b
  ·injection b
  ·rename_i q;rw[qi e e1,aH q] at b;exact t _ _ _ b
 ·rw[aH d,qi e e1] at b
  split at b
  ·cases b
   refine aS ?_ (λk=>?_) ?_
   ·cases j:iH N n with
    |nil=>have d:=j▸d;exact absurd rfl d
    |cons y r=>exact⟨y.1,by refine B d0 ?_;simp⟩
   ·rw[E7 e2]
    split
    ·split
     ·exact λz=>(by injection z)
     ·rename_i i;exact λz=>i (by have z:=bo z;refine B z ?_;rfl)
    ·exact(t _ _ _ e1).2.1 k
   ·have f:=xF (t _ _ _ e1).2.2 n ((N.lookup n).getD 0-1)
    unfold iH;split
    ·exact MI f _
    ·exact f
  ·exact t _ _ _ b
theorem aaY {F:List (Bs×Bs)}(b:(F.map (·.1)).Nodup)(h:F.lookup p=some o)(a n:Bs):jl (cL F p) a n+(dM p).count (a,n)=jl F a n:=by
 unfold jl cL
 induction F with
 |nil=>injection h
 |cons y r c=>
  rw[c3,g9] at b;rw[d0] at h;by_cases e:y.1=p
  ·refine B kL (B (by simpa using e:(y.1==p)=true) ?_)
   simp only[Bool.not_true,Bool.false_eq_true,if_false,List.map_cons,List.sum_cons];have:r.filter (λy=>!(y.1==p))=r:=by rw[List.filter_eq_self];intro z d;have:z.1≠p:=λq=>b.1 (bJ.mpr ⟨z,d,B q (B e rfl)⟩);simp[this]
   exact B this (B e (o8 ..))
  ·rw[(by simpa using λq=>e q.symm:(p==y.1)=false)] at h
   refine B kL (B (by simpa using e:(y.1==p)=false) ?_);simp only[Bool.not_false,if_true,List.map_cons,List.sum_cons];have:=c b.2 h;omega
theorem jk.cO (s:jk k H)(h:b.length<=k):jk k (cO H f a b):=by
 unfold Internal.cO;refine⟨by rw[aW];exact s.1,λy m=>(ai (bJ.mp m) λe d c=>az c ?_)⟩;split
 ·exact h
 ·exact s.2 e d
theorem jk.drop (s:jk k H)(h:1<=gj H f n):jk k (ki H f n):=by
 refine iY (xG h) λa N c e1 e2=>?_;have d:(iH N n).length<=k:=aw ((by
    have e:∀v,(bg N n v).length=N.length:=λv=>by unfold bg;refine B e2 ?_;simp
    unfold iH;split
    ·exact aw (mJ _ _) (ju (e _))
    ·exact ju (e _))) (s.2 _ (mx e1))
 unfold ki;refine B e1 ?_;dsimp only;split
 ·refine⟨aw (mJ _ _) (s.cO d).1,λy m=>(s.cO d).2 y (se.mp m).1⟩
 ·exact s.cO d
inductive FgJ (E:gi)(c:List (Bs×Bs))(d:AH)(r:List (Bs×Bs))(b:AH):Prop
 |mk (dn:List (Bs×Bs)) (a:gV) (e:c=dn++r) (g:∀f n,gj a f n+dn.count (f,n)=gj E.H f n) (h:uc a) (i:jk 600000 a) (j:cU b (E.bY a)) (k:dd E d (E.bY a) b)
theorem aa0 {y:Bs×Bs}(h:a+dn.count y=b)(e:c+(dn++y::r).count y=b):1<=a:=by rw[List.count_append,List.count_cons_self] at e;omega
theorem aa1 {y z:Bs×Bs}(h:a+dn.count z=b)(e:c+(if z=y then 1 else 0)=a):c+(dn++[y]).count z=b:=by
 rw[List.count_append,List.count_singleton,←h,←e];by_cases q:z=y
 ·rw[aG q,aG (bG.mpr q.symm),mN,o8 1]
 ·refine B (aH q) (B (aH λw=>q (bG.mp w).symm) ?_);rfl
section
variable (C:Ck d)(x:cU Y D)
include C x
theorem aa2 (hp:kg p)(U:(D.F.map (·.1)).Nodup)(v:D.F.lookup p=some o)(ok:rF D.F D.H)(sm:jk 600000 D.H)(J:D.F.length<=1000000)
  (k:∀g b,rF (cL D.F p) b->jk 600000 b->cU g ((D.dh (cL D.F p)).bY b)->dd D Y ((D.dh (cL D.F p)).bY b) g->Q .none g):d false .yR [.ref D.d,.bytes p] Q X Y:=by
 refine aZ Zc C ?_;w_up;refine Ke x.fl λef e=>?_;k_go;refine bx x.dk rfl (rE D.f D.b) (nH e (aS rfl rfl (nI e (aS (gU _ _ _) (by rw[rD];exact aw J dc) (aE ((nM _ _ _).trans (by refine B v ?_;rfl)) λG=>?_)))));rw[E3];refine Ka (x.ME (cL D.F p) G) λt u=>?_;generalize Y.set D.f (.dict G (cm qh (cL D.F p)))=cN at t u⊢;k_go;have L:∀f n,jl (cL D.F p) f n+(dM p).count (f,n)=gj D.H f n:=λf n=>(aaY U v f n).trans (ok.rG f n).symm;replace k:=λg b (x:rF (cL D.F p) b) y z c=>k g b x y z (u.trans c);have td:=ok.kj;clear ok U v J u e;change cU cN (D.dh (cL D.F p)) at t;refine aS rfl dc (E2 C hp λbX a e1 na H=>cQ H ?_);refine eu (ι:=Option PV×Option PV×Option PV) rC (λy=>L1 (.ref D.d) (L1 (.bytes p) (Lo y.1 (Lo y.2.1 (Lo y.2.2 []))))) (FgJ (D.dh (cL D.F p)) (dM p) bX) (λO O=>False)
  (λz r y g K i kn O=>?_) (λxs g i=>?_) (λy g i=>?_) (λO O O f=>f.elim) (dM p) (none,none,none) bX ⟨[],D.H,rfl,λO O=>rfl,td,sm,t.ext e1,.refl _ _⟩
 ·obtain⟨A,b,h,s,w,j,l,m⟩:=i
  have q:1<=gj b z.1 z.2:=aa0 (s z.1 z.2) (h▸L z.1 z.2);exact iY (xG q) λa' N c M l2=>gm rfl rfl (bl) (bl) (aaQ (D:=(D.dh (cL D.F p)).bY b) l M l2 (aw j.1 dc) (aw (j.2 _ (mx M)) dc) λAS v4 d2 c2=>kn (_,_,_) _ ⟨A++[z],ki b z.1 z.2,by rw[h,e6];rfl,λf n=>aa1 (s f n) (aaW l.kn q f n),aaX l.kn w q,j.drop q,d2,m.trans c2⟩)
 ·obtain⟨O,O,O,O,O,O,O,m⟩:=i
  exact m.CY t na H
 ·obtain⟨A,b,h,s,w,j,l,m⟩:=i
  rw[eB] at h;exact tn (sn (k g b ⟨λI n=>Nat.add_right_cancel ((s I n).trans (h▸L I n).symm),w⟩ j l ((dd.ext e1).trans m)))
end
theorem ud [DecidableEq d]:∀{l L:List d},l.Nodup->(∀x∈l,x∈L)->l.length<=L.length
 |[],_,_,_=>cI _
 |x::r,L,a,s=>by rw[g9] at a;have b:r.length<=(L.erase x).length:=ud a.2 λy m=>(List.mem_erase_of_ne (λq:y=x=>a.1 (by exact az q m))).mpr (s y (cn _ m));have c:=s x bP;rw[List.length_erase_of_mem c] at b;have:=List.length_pos_of_mem c;exact B e8 (aw (fZ b) (ju (Nat.sub_add_cancel this)))
def iI (F:List (Bs×Bs)):List (Bs×Bs):=F.flatMap λy=>dM y.1
theorem aa3 {F:List (Bs×Bs)}(a:∀y∈F,kg y.1):(iI F).length<=1001*F.length:=by
 unfold iI
 induction F with
 |nil=>simp
 |cons y r b=>refine B r9 (B bR (B e8 ?_));have:=MG (a y bP);have:=b λz m=>a z (cn _ m);lia
theorem E8 {F:List (Bs×Bs)}(h:1<=jl F a n):(a,n)∈iI F:=by
 unfold jl at h;unfold iI
 induction F with
 |nil=>simp at h
 |cons y r b=>
  rw[c3,qA] at h;rw[r9,hG];by_cases q:(a,n)∈dM y.1
  ·exact .inl q
  ·rw[List.count_eq_zero_of_not_mem q] at h
   exact .inr (b (by lia))
theorem aa4 {F:List (Bs×Bs)}(h:(a,n)∈iI F):1<=jl F a n:=by
 unfold jl;unfold iI at h
 induction F with
 |nil=>simp at h
 |cons y r b=>
  refine B c3 (B qA ?_);rw[r9,hG] at h;rcases h with h|h
  ·have:=List.count_pos_iff.mpr h;exact O0 (by assumption)
  ·have:=b h;exact OZ (by assumption)
structure fC (Y:AH)(D:gi):Prop where
 aa:cU Y D
 ok:rF D.F D.H
 fk:(D.F.map (·.1)).Nodup
 jU:∀y∈D.F,kg y.1
 dN:D.F.length<=200
theorem E9 (h:H.lookup b=some (a,N)):gj H b n=(N.lookup n).getD 0:=by unfold gj;exact B h rfl
theorem fC.small (x:fC Y D):jk 500000 D.H:=by
 have l:(iI D.F).length<=500000:=aw (aa3 x.jU) (by have:=x.dN;exact sq bW dc);have f:∀c a N,D.H.lookup c=some (a,N)->∀n v,N.lookup n=some v->(c,n)∈iI D.F:=λc a N b n v e=>by
  refine E8 ?_;rw[←x.ok.rG,E9 b,e];have:=(x.ok.kj c a N b).2.1 n;cases v with
  |zero=>exact absurd e this
  |succ v=>simp
 refine⟨?_,λy d=>?_⟩
 ·have:=ud (l:=D.H.map (·.1)) (L:=(iI D.F).map (·.1)) x.aa.kn λk mk=>by
   refine ai (bJ.mp mk) λy d g=>az g ?_;obtain⟨c,a,N⟩:=y;have b:=jK x.aa.kn d;refine Ke ((x.ok.kj _ _ _ b).1) λn i=>?_;cases q:N.lookup n with
   |none=>exact absurd q i
   |some v=>exact bJ.mpr (aQ (c,n) (f _ _ _ b n v q) rfl)
  rw[aW,aW] at this;exact aw bW bW
 ·obtain⟨c,a,N⟩:=y
  have b:=jK x.aa.kn d;have:=ud (l:=N.map (·.1)) (L:=(iI D.F).map (·.2)) (x.ok.kj _ _ _ b).2.2 λk mk=>by exact ai (bJ.mp mk) λz j h=>az h (bJ.mpr (aQ (c,z.1) (f _ _ _ b z.1 z.2 (jK (x.ok.kj _ _ _ b).2.2 j)) rfl))
  rw[aW,aW] at this;exact((aw bW bW):N.length<=500000)
theorem fC.ext (x:fC Y D)(e:ay Y a):fC a D:=⟨x.aa.ext e,x.ok,x.fk,x.jU,x.dN⟩
theorem fC.kP (x:fC Y D)(f:Bs):(D.H.lookup f).isSome=true↔∃n,(f,n)∈iI D.F:=by
 constructor
 ·refine λh=>Ke (uF.mp h) λg b=>?_;obtain⟨a,N⟩:=g
  refine Ke ((x.ok.kj _ _ _ b).1) λn d=>?_;cases q:N.lookup n with
  |none=>exact absurd q d
  |some v=>
   refine⟨n,E8 ?_⟩;rw[←x.ok.rG,E9 b,q];cases v with
   |zero=>exact absurd q ((x.ok.kj _ _ _ b).2.1 n)
   |succ v=>simp
 ·rintro ⟨n,d⟩
  have:=aa4 d;rw[←x.ok.rG] at this;refine iY (xG this) λa N c e O=>B e ?_;rfl
theorem aa5 (L:List (Bs×d))(k:Bs)(u v:d):bg (bg L k u) k v=bg L k v:=by
 have a:((bg L k u).lookup k).isSome=true:=by rw[kh,aG rfl];rfl
 unfold bg at a⊢;refine B (aG a) ?_;split
 ·rw[cV]
  refine gF λy O=>(?_:(if((if(y.1==k)=true then(y.1,u) else y).1==k)=true then _ else _)=_);by_cases e:y.1=k
  ·simp[e]
  ·simp[e]
 ·rename_i h
  rw[cF];have b:L.lookup k=none:=by
   cases r:L.lookup k with
   |none=>rfl
   |some v=>rw[r] at h;exact absurd rfl h
  have:L.map (λy=>if y.1==k then(y.1,v) else y)=L:=by
   conv=>rhs;rw[←sh L]
   refine gF λy c=>?_;have:y.1≠k:=λq=>by have:=rX.mp b y c;simp[q] at this
   simp[this]
  refine B this ?_;simp
theorem Fb (m:y∈bg L k v):y.1=k∨∃z∈L,z.1=y.1:=by
 unfold bg at m;split at m
 ·refine ai (bJ.mp m) λz b a=>az a ?_
  right
  refine aQ z b ?_;split<;>rfl
 ·rcases hG.mp m with m|m
  ·exact .inr (aQ y m rfl)
  ·exact B (eR.mp m) (.inl rfl)
section
variable (C:Ck b)(x:fC Y D)
include C x
theorem Fc (g:kg p)(j:D.F.length<=199∨(D.F.lookup p).isSome=true)(k:∀a d,fC a ((D.bY d).dh (bg D.F p o))->dd D Y ((D.bY d).dh (bg D.F p o)) a->Q .none a):b false .yQ [.ref D.d,.bytes p,.bytes o,.int 33188] Q X Y:=by
 refine aaO C x.aa g x.small (aw x.dN dc) λa d h i n c=>k a d ⟨n,x.ok.bh x.aa.kn h i,xF x.fk _ _,λy l=>?_,?_⟩ c
 ·rcases Fb l with e|⟨z,m,e⟩
  ·rw[e];exact g
  ·rw[←e];exact x.jU z m
 ·refine(?_:(bg D.F p o).length<=200)
  rcases j with f|f
  ·exact aw (xE D.F p o) (fZ (by assumption))
  ·unfold bg;rw[aG f,aW];exact x.dN
theorem MJ (i:kg p)(q:o.length<=1000000)(u:D.F.length<=199)(v:D.H.lookup p=none)(w:∀y∈dM p,D.F.lookup y.1=none)
  (k:∀j l,fC j ((D.bY l).dh (bg D.F p o))->dd D Y ((D.bY l).dh (bg D.F p o)) j->Q .none j):
  Ss b a6 (a6 .sA-1) false EH (L1 (.ref D.d) (L1 (.bytes p) (L1 (.bytes o) (L1 (.int 33188) [])))) (cj Q) (h8 X) Y:=by
 unfold EH;w_up;k_go;refine cX x.aa.dk rfl rfl dc (MC C x.aa i v w λH e1=>?_);have f:=x.ext e1;k_go;refine cX f.aa.dk rfl rfl dc (AQ C f.aa ?_);k_go;refine fA f.aa.dk rfl rfl ⟨rfl,aE (aG (ry (aw q dc))) (EV dc (aE rfl ⟨aw q dc,dc,Fc C f i (.inl u) λG s g m=>?_⟩))⟩;generalize e:(D.bY s).dh (bg D.F p (bT o none (some ((o.length:Int)/2))))=c at g m;have d:c.d=D.d:=by refine az e ?_;rfl
 have t:(c.F.lookup p).isSome=true:=by rw[←e];show((bg D.F p _).lookup p).isSome=true;rw[kh,aG rfl];rfl
 have z:∀a,(c.bY a).dh (bg c.F p o)=(D.bY a).dh (bg D.F p o):=λa=>by refine az e (?_:(D.bY a).dh (bg (bg D.F p _) p o)=_);rw[aa5]
 clear e;have h:=g.aa.dk;rw[d] at h;k_go;refine cX h rfl rfl dc (az d (AQ C g.aa (B d ?_)));k_go;refine cX h rfl rfl dc (az d (Fc C g i (.inr t) λA a r n=>sn ?_));rw[z] at r n;exact k A a r (((dd.ext e1).trans m).trans n)
theorem aa6 (h:kg p)(g:o.length<=1000000)(d:D.F.length<=199)(e:D.H.lookup p=none)(f:∀y∈dM p,D.F.lookup y.1=none)
  (k:∀a c,fC a ((D.bY c).dh (bg D.F p o))->dd D Y ((D.bY c).dh (bg D.F p o)) a->Q .none a):b false .sA [.ref D.d,.bytes p,.bytes o,.int 33188] Q X Y:=
 aZ (j:=1) L6 C (MJ C x h g d e f k)
theorem aa7 (h:kg p)(g:o.length<=1000000)(d:D.F.length<=199)(e:D.H.lookup p=none)(f:∀y∈dM p,D.F.lookup y.1=none)
  (k:∀a c,fC a ((D.bY c).dh (bg D.F p o))->dd D Y ((D.bY c).dh (bg D.F p o)) a->Q .none a):b false .sA [.ref D.d,.bytes p,.bytes o] Q X Y:=
 aZ (j:=0) L6 C (MJ C x h g d e f k)
end
section
variable (C:Ck b)(x:fC Y D)
include C x
theorem ML (e:D.F.lookup p=some o)(k:∀a d,fC a ((D.dh (cL D.F p)).bY d)->dd D Y ((D.dh (cL D.F p)).bY d) a->Q .none a):b false .yR [.ref D.d,.bytes p] Q X Y:=by exact aa2 C x.aa (x.jU _ (mx e)) x.fk e x.ok ⟨aw x.small.1 dc,λy m=>aw (x.small.2 y m) dc⟩ (aw x.dN dc) λa d f O h c=>k a d ⟨h,f,MI x.fk _,λy g=>x.jU y (se.mp g).1,aw (mJ _ _) x.dN⟩ c
theorem aa8 (e:D.F.lookup p=some o)(k:∀a c,fC a ((D.dh (cL D.F p)).bY c)->dd D Y ((D.dh (cL D.F p)).bY c) a->Q .none a):b false .yP [.ref D.d,.bytes p] Q X Y:=by refine aZ Y9 C ?_;w_up;have d:=x.aa.dk;k_go;refine cX d rfl rfl dc (E4 C x.aa e ?_);k_go;refine cX d rfl rfl dc (AQ C x.aa ?_);k_go;exact cX d rfl rfl dc (ML C x e λa c g f=>sn (k a c g f))
theorem aa9 (f:D.F.lookup p=some o)(s:kg r)(H:p≠r)(z:D.H.lookup r=none)(A:∀y∈dM r,D.F.lookup y.1=none)
  (k:∀h i,fC h ((D.bY i).dh (bg (cL D.F p) r o))->dd D Y ((D.bY i).dh (bg (cL D.F p) r o)) h->Q .none h):b false .yO [.ref D.d,.bytes p,.bytes r] Q X Y:=by
 refine aZ Y8 C ?_;w_up;have n:=x.aa.dk;k_go;refine cX n rfl rfl dc (E4 C x.aa f (gm rfl rfl (bl) (bl) ?_));k_go;refine dB (eA.mpr H) (sk ?_);k_go;refine cX n rfl rfl dc (MC C x.aa s z A λJ e1=>?_);have e:=x.ext e1;k_go;refine cX e.aa.dk rfl rfl dc (AQ C e.aa ?_);k_go;refine cX e.aa.dk rfl rfl dc (ML C e f λL u g j=>?_);have w:(cL D.F p).length<=199:=by
  have I:(cL D.F p).length<D.F.length:=by unfold cL;exact List.length_filter_lt_length_iff_exists.mpr (aQ _ (mx f) (by simp))
  have:=x.dN;lia
 generalize d:(D.dh (cL D.F p)).bY u=c at g j;have m:c.d=D.d:=by refine az d ?_;rfl
 have v:c.F.length<=199:=az d w;have G:∀a,(c.bY a).dh (bg c.F r o)=(D.bY a).dh (bg (cL D.F p) r o):=λa=>by refine az d ?_;rfl
 clear d;have q:=g.aa.dk;rw[m] at q;k_go;refine cX q rfl rfl dc (az m (Fc C g s (.inl v) λU a t l=>sn ?_));rw[G] at t l;exact k U a t (((dd.ext e1).trans j).trans l)
end
noncomputable def nA:Bs:=[47,97]
noncomputable def nO:Bs:=[47,111]
noncomputable def AU:Bs:=[72,69,65,68]
noncomputable def jL:Bs:=[114,101,102,115]
noncomputable def xH:Bs:=[47,104,101,97,100,115]
noncomputable def MM:Bs:=[47,116,97,103,115]
noncomputable def ue:Bs:=[47,114,101,109,111,116,101,115]
noncomputable def c9:Bs:=[112,97,99,107,101,100,45,114,101,102,115]
noncomputable def cz:Bs:=[46,108,111,99,107]
def nX (k:Nat):Bs:=jL++[47,115,47,120,48+k]
def eI:List Bs:=[jL++xH++nA,jL++MM++nA,jL++ue++nA++47::AU,jL++ue++nO++nA,jL++xH++nO++nA,jL++MM++xH++nA,jL++nO++nA,jL++xH++xH++nA,AU]
noncomputable def Un:List Bs:=eI++(List.range 9).map nX
noncomputable def AV:Bs:=[46,103,105,116]
def gp (n:Bs):Bs:=AV++47::n
def dO:List Bs:=(c9::Un).flatMap λn=>[gp n,gp n++cz]
theorem MN:dO.all (λp=>(((c5 47 p).all λx=>!x.isEmpty)&&Nat.ble p.length 1000)&&dO.all λq=>(dM q).all λy=>!(y.1==p))=true:=by kernel_rfl
section
variable (h:p∈dO)
include h
theorem qj:kg p:=by have:=bI.mp MN p h;simp only[Bool.and_eq_true,List.all_eq_true] at this;refine⟨λx m e=>?_,Nat.le_of_ble_eq_true this.1.2⟩;have:=this.1.1 x m;rw[e] at this;injection this
theorem Fd (m:q∈dO):∀y∈dM q,y.1≠p:=λy a e=>by have:=bI.mp MN p h;simp only[Bool.and_eq_true,List.all_eq_true] at this;have:=this.2 q m y a;rw[e,ej] at this;injection this
end
abbrev bH:=Bs->Option Bs
noncomputable def di (F:bH)(p o:Bs):bH:=λq=>if q=p then some o else F q
noncomputable def iJ (F:bH)(p:Bs):bH:=λq=>if q=p then none else F q
abbrev iV:=List (Addr×bS)
inductive Sd (D:gi)(a:iV)(Y:AH):Prop
 |mk (x:fC Y D) (b:(a.map (·.1)).Nodup) (c:∀y∈a,Y y.1=some y.2/\¬D.de y.1)
inductive Fi (d:Addr)(F:bH)(D:gi):Prop
 |mk (b:D.d=d) (a:∀p,D.F.lookup p=F p) (u:∀p,(F p).isSome=true->p∈dO)
inductive St (d:Addr)(F:bH)(τ:iV)(Y:AH):Prop
 |mk (D:gi) (f:Fi d F D) (s:Sd D τ Y)
theorem cU.bO (x:cU Y D)(h:D.de a):Y a≠none:=by
 rcases h with rfl|rfl|rfl|⟨y,m,rfl⟩
 ·exact B x.dk (λh=>by injection h)
 ·exact Ke x.fl λO e=>B e (λh=>by injection h)
 ·exact Ke x.bl λO e=>B e (λh=>by injection h)
 ·exact Ke (x.sub y m) λO e=>B e (λh=>by injection h)
theorem cU.MO (x:cU Y D)(e:∀a,D.de a->c a=Y a):cU c D:=
 ⟨(e _ (.inl rfl)).trans x.dk,(by refine Ke x.fl λb h=>?_;exact⟨b,(e _ (.inr (.inl rfl))).trans h⟩),(by refine Ke x.bl λb h=>?_;exact⟨b,(e _ (.inr (.inr (.inl rfl)))).trans h⟩),λy m=>(by refine Ke (x.sub y m) λb h=>?_;exact⟨b,(e _ (.inr (.inr (.inr ⟨y,m,rfl⟩)))).trans h⟩),x.fb,x.fB,x.nd,x.kn⟩
section
variable {F:bH}
theorem Sd.o (x:Sd D c Y)(i:Nat){o:bS}(h:c[i]? =some (a,o)):Y a=some o:=by obtain⟨O,O,b⟩:=x;exact(b _ (uJ h)).1
theorem Sd.ext (x:Sd D g Y)(e:ay Y c):Sd D g c:=by obtain⟨x,b,a⟩:=x;exact⟨x.ext e,b,λy m=>⟨e _ _ (a y m).1,(a y m).2⟩⟩
theorem Sd.oS (x:Sd D i Y)(e:ay Y b)(n:Y z=none){o:bS}(h:b z=some o):Sd D ((z,o)::i) b:=by
 obtain⟨x,g,a⟩:=x;refine⟨x.ext e,g9.mpr ⟨λm=>?_,g⟩,λy m=>?_⟩
 ·refine ai (bJ.mp m) λy c e=>?_
  have:=(a y c).1;rw[e,n] at this;injection this
 ·rcases d4.mp m with rfl|m
  ·exact⟨h,λw=>x.aa.bO w n⟩
  ·exact⟨e _ _ (a y m).1,(a y m).2⟩
theorem Sd.new (x:Sd D a Y)(n:Y z=none)(o:bS):Sd D ((z,o)::a) (Y.set z o):=x.oS (ay.set n o) n (AH.a9 _ _ _)
theorem Sd.dt {o:bS}(x:Sd D ((z,o)::i) Y)(h:bS):Sd D ((z,h)::i) (Y.set z h):=by
 obtain⟨x,g,b⟩:=x;have c:=(b _ bP).2;refine⟨⟨x.aa.MO λa w=>AH.cJ _ _ λe=>c (e▸w),x.ok,x.fk,x.jU,x.dN⟩,g,λy m=>?_⟩;rcases d4.mp m with rfl|m
 ·exact⟨AH.a9 _ _ _,c⟩
 ·exact⟨B (AH.cJ _ _ λe=>(g9.mp g).1 (bJ.mpr (aQ y m e))) ((b y (cn _ m)).1),(b y (cn _ m)).2⟩
theorem Sd.ne (x:Sd D c Y){o p:bS}{i j:Nat}(l:c[i]? =some (a,o))(m:c[j]? =some (b,p))(h:i≠j):a≠b:=by
 obtain⟨O,n,O⟩:=x;intro e;have g:(c.map (·.1))[i]? =some a:=by refine B (eZ) (B l ?_);rfl
 have k:(c.map (·.1))[j]? =some a:=by refine B (eZ) (B m (B e ?_));rfl
 exact h ((yA (kH.mp g).1 n).mp (g.trans k.symm))
theorem AW:∀{l:List a} {i:Nat},l[i]? =some y->(y::l.eraseIdx i).Perm l
 |[],_,h=>(by injection h)
 |x::r,0,h=>by have h:=bo h;refine B h ?_;exact .refl _
 |x::r,i+1,h=>(List.Perm.swap x y _).trans ((AW (l:=r) h).cons x)
theorem Sd.aX (x:Sd D a Y)(i:Nat)(h:a[i]? =some y):Sd D (y::a.eraseIdx i) Y:=by obtain⟨x,b,c⟩:=x;have p:=AW h;exact⟨x,(p.map _).nodup_iff.mpr b,λy m=>c y (p.mem_iff.mp m)⟩
theorem Sd.drop (x:Sd D (y::e) Y):Sd D e Y:=by obtain⟨x,a,c⟩:=x;exact⟨x,(g9.mp a).2,λy m=>c y (cn _ m)⟩
theorem Sd.iC (x:Sd D k Y)(c:dd D Y a b)(j:fC b a):Sd a k b:=by obtain⟨x,g,i⟩:=x;refine⟨j,g,λy m=>(Ka (i y m) λe n=>⟨(c.bh _ (B e (λh=>by injection h)) n).trans e,λw=>(c.eM _ w).elim n λz=>?_⟩)⟩;rw[e] at z;injection z
theorem St.o (x:St d F τ Y)(i:Nat){o:bS}(h:τ[i]? =some (a,o)):Y a=some o:=(by obtain⟨O,O,s⟩:=x;exact s.o i h)
theorem St.dk (x:St d F τ Y):∃f b,Y d=some (.bc .i9 [(.left,.none),(.fa,.ref f),(.below,.ref b)]):=(by obtain⟨O,⟨a,O,O⟩,⟨x,O,O⟩⟩:=x;exact mH _ _ (a▸x.aa.dk))
theorem St.ext (x:St d F τ Y)(e:ay Y a):St d F τ a:=let⟨D,f,s⟩:=x;⟨D,f,s.ext e⟩
theorem St.new (x:St d F τ Y)(n:Y z=none)(o:bS):St d F ((z,o)::τ) (Y.set z o):=let⟨D,f,s⟩:=x;⟨D,f,s.new n o⟩
theorem St.oS (x:St d F τ Y)(e:ay Y a)(n:Y z=none){o:bS}(h:a z=some o):St d F ((z,o)::τ) a:=let⟨D,f,s⟩:=x;⟨D,f,s.oS e n h⟩
theorem St.dt {o:bS}(x:St d F ((z,o)::τ) Y)(a:bS):St d F ((z,a)::τ) (Y.set z a):=(by obtain⟨D,f,s⟩:=x;exact⟨D,f,s.dt a⟩)
theorem St.ne (x:St d F τ Y){o g:bS}{i j:Nat}(c:τ[i]? =some (a,o))(e:τ[j]? =some (b,g))(h:i≠j):a≠b:=let⟨_,_,s⟩:=x;s.ne c e h
theorem St.aX (x:St d F τ Y)(i:Nat)(h:τ[i]? =some y):St d F (y::τ.eraseIdx i) Y:=let⟨D,f,s⟩:=x;⟨D,f,s.aX i h⟩
theorem St.drop (x:St d F (y::τ) Y):St d F τ Y:=(by obtain⟨D,f,s⟩:=x;exact⟨D,f,s.drop⟩)
variable (f:Fi d F D)
include f
theorem Fi.has (m:(p,o)∈D.F)(a:(D.F.map (·.1)).Nodup):F p=some o:=(by obtain⟨O,b,O⟩:=f;exact(b p).symm.trans (jK a m))
theorem Fi.rH (e:F p=some o):p∈dO:=let⟨_,_,u⟩:=f;u p (by refine B e ?_;rfl)
theorem MP (x:fC Y D):D.F.length<=199:=by
 have:=ud (L:=dO) x.fk λk m=>by refine ai (bJ.mp m) λy b a=>?_;subst a;exact f.rH (f.has b x.fk)
 rw[aW] at this;exact aw this (Nat.le_of_ble_eq_true cA)
theorem AX (x:fC Y D)(h:p∈dO):D.H.lookup p=none:=by
 cases q:D.H.lookup p with
 |none=>rfl
 |some v=>refine Ke ((x.kP p).mp (by refine B q ?_;rfl)) λn m=>?_;unfold iI at m;exact ai (List.mem_flatMap.mp m) λy a m=>absurd rfl (Fd h (f.rH (f.has a x.fk)) _ m)
theorem Fe (h:p∈dO):∀y∈dM p,D.F.lookup y.1=none:=λy m=>by
 obtain⟨O,a,u⟩:=f;rw[a];cases q:F y.1 with
 |none=>rfl
 |some v=>exact absurd rfl (Fd (u y.1 (by refine B q ?_;rfl)) h y m)
theorem Fi.dA (h:p∈dO)(g:b.d=D.d)(e:∀r,b.F.lookup r=if r=p then some o else D.F.lookup r):Fi d (di F p o) b:=by
 obtain⟨rfl,c,u⟩:=f;refine⟨g,λr=>(e r).trans (by rw[c];rfl),λr a=>?_⟩;unfold di at a;by_cases e:r=p
 ·rw[e];exact h
 ·rw[aH e] at a;exact u r a
theorem Fi.uf (c:D'.d=D.d)(e:∀r,D'.F.lookup r=if r=p then none else D.F.lookup r):Fi d (iJ F p) D':=by
 obtain⟨rfl,b,u⟩:=f;refine⟨c,λr=>(e r).trans (by rw[b];rfl),λr a=>?_⟩;unfold iJ at a;by_cases e:r=p
 ·rw[aG e] at a;injection a
 ·rw[aH e] at a;exact u r a
end
section
variable {F:bH}
variable (C:Ck g)(x:St d F h Y)
include C x
theorem xI (k:Q (.bool (F p).isSome) Y):g q .vD [.ref d,.bytes p] Q X Y:=by obtain⟨D,⟨rfl,a,O⟩,⟨x,O,O⟩⟩:=x;exact aaD C x.aa (by rw[a];exact k)
theorem AY (k:∀b,(p∈dO->b=false)->Q (.bool b) Y):g q .yN [.ref d,.bytes p] Q X Y:=by
 obtain⟨D,f,⟨x,O,O⟩⟩:=x;obtain⟨c,O,O⟩:=id f;refine az c ?_;refine aaE C x.aa (k _ λm=>B (AX f x m) ?_);cases p with
 |nil=>exact absurd rfl ((qj m).1 [] bP)
 |cons a r=>rfl
theorem MQ (b:F p=some o)(k:Q (.bytes o) Y):g q .yM [.ref d,.bytes p] Q X Y:=by obtain⟨D,⟨rfl,a,O⟩,⟨x,O,O⟩⟩:=x;exact aaF C x.aa ((a p).trans b) k
theorem Ff (b:p∈dO)(i:o.length<=1000000)(m:List PV)(n:m=[]∨m=[.int 33188])(k:∀a,St d (di F p o) h a->Q .none a):g false .sA (.ref d::.bytes p::.bytes o::m) Q X Y:=by
 obtain⟨D,f,s⟩:=x;obtain⟨x,O,O⟩:=id s;obtain⟨l,O,O⟩:=id f;refine az l ?_;have j:∀a e,fC a ((D.bY e).dh (bg D.F p o))->dd D Y ((D.bY e).dh (bg D.F p o)) a->Q .none a:=λa e q c=>k a ⟨(D.bY e).dh (bg D.F p o),f.dA b rfl λr=>kh _ _ _ _,s.iC c q⟩;rcases n with rfl|rfl
 ·exact aa7 C x (qj b) i (MP f x) (AX f x b) (Fe f b) j
 ·exact aa6 C x (qj b) i (MP f x) (AX f x b) (Fe f b) j
theorem MR (j:F p=some o)(k:∀a,St d (iJ F p) h a->Q .none a):g false .yP [.ref d,.bytes p] Q X Y:=by obtain⟨D,f,s⟩:=x;obtain⟨x,O,O⟩:=id s;obtain⟨e,i,O⟩:=id f;refine az e ?_;exact aa8 C x ((i p).trans j) λa b l c=>k a ⟨(D.dh (cL D.F p)).bY b,f.uf rfl λr=>xD _ _ _,s.iC c l⟩
theorem aba (m:F p=some o)(a:r∈dO)(l:p≠r)(k:∀b,St d (di (iJ F p) r o) h b->Q .none b):g false .yO [.ref d,.bytes p,.bytes r] Q X Y:=by obtain⟨D,f,s⟩:=x;obtain⟨x,O,O⟩:=id s;obtain⟨i,j,O⟩:=id f;refine az i ?_;exact aa9 C x ((j p).trans m) (qj a) l (AX f x a) (Fe f a) λb e n c=>k b ⟨(D.bY e).dh (bg (cL D.F p) r o),(f.uf (D':=D.dh (cL D.F p)) rfl λr=>xD _ _ _).dA a rfl λs=>kh _ _ _ _,s.iC c n⟩
end
def fD (d:Addr) (p:Bs) (b:Bool):bS:=.bc .oa [(.eC,.ref d),(.jU,.bytes p),(.pd,.bytes (p++cz)),(.n9,.bool b)]
theorem Fg (p:Bs):p++cz≠p:=λe=>by have:=br List.length e;rw[bR] at this;exact absurd this (Nat.ne_of_gt (Nat.lt_add_of_pos_right dc))
theorem gW {b c:Bool}{P a:Prop}(h:b=c)(k:P):if b=c then P else a:=by rw[if_pos h];exact k
section
variable {F:bH}
theorem km {z:Addr}{c:Cl}{P:AH->Prop}(x:St d F ((z,.bc c e)::g) Y)(h:(c.fM b&&Nat.ble e.length 50)=true)(k:∀f,St d F ((z,.bc c (jc e b v))::g) f->P f):
  hO (λc e=>(c.fM b=true/\e.length<=50)/\P (Y.set z (.bc c (jc e b v)))) False (Y z):=
 rq (x.o 0 rfl) ⟨⟨(V h).1,Nat.le_of_ble_eq_true (V h).2⟩,k _ (x.dt _)⟩
variable (C:Ck a)
include C
theorem Fh (x:St d F ((l,.bc .oa [])::e) Y)(c:p.length<=1000)(k:∀b,St d F ((l,fD d p false)::e) b->Q .none b):a q .BP [.ref l,.ref d,.bytes p] Q X Y:=by refine aZ Zd C ?_;w_up;k_go;refine km x rfl λY x=>?_;k_go;refine km x rfl λY x=>?_;k_go;refine iG (aw (n4 c 5) dc) (km x rfl λY x=>?_);k_go;exact km x rfl λY x=>sn (k Y x)
theorem abb (x:St d F ((l,fD d p false)::g) Y)(f:p++cz∈dO)(e:F (p++cz)=none)(k:∀c,St d (di F (p++cz) []) ((l,fD d p true)::g) c->Q .none c):a false .BQ [.ref l] Q X Y:=by refine eJ x.dk λO O b=>aZ Ze C ?_;w_up;k_go;refine bx (x.o 0 rfl) rfl rfl (fA b rfl rfl (bx (x.o 0 rfl) rfl rfl ⟨dc,xI C x (B e ?_)⟩));x_go;refine gW rfl (bx (x.o 0 rfl) rfl rfl ?_);x_go;refine gW rfl (jJ (sk ?_));k_go;refine bx (x.o 0 rfl) rfl rfl (fA b rfl rfl (bx (x.o 0 rfl) rfl rfl ⟨dc,Ff C x f (cI _) [] (.inl rfl) λY x=>?_⟩));k_go;exact km x rfl λY x=>sn (k Y x)
theorem Fj (x:St d F ((l,fD d p false)::f) Y)(e:p++cz∈dO)(c:F (p++cz)=none)(k:∀b,St d (di F (p++cz) []) ((l,fD d p true)::f) b->Q (.bool true) b):a false .sG [.ref l] Q X Y:=by refine aZ ZL C ?_;w_up;k_go;refine⟨dc,?_⟩;k_go;k_go;refine cX (x.o 0 rfl) rfl rfl dc (abb C x e c λY x=>sk ?_);k_go;exact k Y x
theorem MS (x:St d F ((l,fD d p true)::b) Y)(k:Q .none Y):a q .BU [.ref l] Q X Y:=by refine aZ Zh C ?_;w_up;k_go;refine bx (x.o 0 rfl) rfl rfl ?_;x_go;exact dB rfl (sk (sn k))
theorem Fm (x:St d F ((l,fD d p true)::g) Y)(f:p++cz∈dO)(e:o.length<=1000000)(k:∀b,St d (di F (p++cz) o) ((l,fD d p true)::g) b->Q .none b):a false .BR [.ref l,.bytes o] Q X Y:=by refine eJ x.dk λO O c=>aZ (j:=0) Zf C ?_;w_up;k_go;refine cX (x.o 0 rfl) rfl rfl dc (MS C x ?_);k_go;exact bx (x.o 0 rfl) rfl rfl (fA c rfl rfl (bx (x.o 0 rfl) rfl rfl ⟨dc,Ff C x f e [.int 33188] (.inr rfl) λY x=>sn (k Y x)⟩))
theorem MT (x:St d F ((l,fD d p true)::g) Y)(f:p∈dO)(e:F (p++cz)=some o)(k:∀b,St d (di (iJ F (p++cz)) p o) ((l,fD d p false)::g) b->Q .none b):a false .BS [.ref l] Q X Y:=by refine eJ x.dk λO O c=>aZ Zg C ?_;w_up;k_go;refine cX (x.o 0 rfl) rfl rfl dc (MS C x ?_);k_go;refine bx (x.o 0 rfl) rfl rfl (fA c rfl rfl (bx (x.o 0 rfl) rfl rfl (bx (x.o 0 rfl) rfl rfl ⟨dc,aba C x e f (Fg p) λY x=>?_⟩)));k_go;exact km x rfl λY x=>sn (k Y x)
theorem Fp (x:St d F ((l,fD d p true)::f) Y)(e:F (p++cz)=some o)(k:∀b,St d (iJ F (p++cz)) ((l,fD d p false)::f) b->Q .none b):a false .vE [.ref l] Q X Y:=by refine eJ x.dk λO O c=>aZ L7 C ?_;w_up;k_go;refine bx (x.o 0 rfl) rfl rfl ?_;x_go;refine oQ ?_;k_go;refine bx (x.o 0 rfl) rfl rfl (fA c rfl rfl (bx (x.o 0 rfl) rfl rfl ⟨dc,MR C x e λY x=>?_⟩));k_go;exact km x rfl λY x=>sk (sn (k Y x))
theorem abc (x:St d F ((l,fD d p false)::b) Y)(k:Q .none Y):a q .vE [.ref l] Q X Y:=by refine aZ L7 C ?_;w_up;k_go;refine bx (x.o 0 rfl) rfl rfl ?_;x_go;exact jJ (sk (sn k))
end
def xJ (c:Nat):Bool:=decide ((c:Int)<33)||((c:Int)==127||(decide ((c:Int)>255)||sN [c] [126,94,58,63,42,91,92]))
def nN (x:Bs):Bool:=x==[]||([x.headD 0]==[46]||bT x (some (-5)) none==cz)
def ug (n:Bs) (a8:Bool):Bool:=bif ((eF n [47]).length:Int)==1&&!a8 then false else !(eF n [47]).any nN
def uh (n:Bs) (a8:Bool):Bool:=bif sN [46,46] n||sN [64,123] n then false else ug n a8
def xK (n:Bs) (a8:Bool):Bool:=bif n.any xJ then false else uh n a8
def gA (n:Bs) (a8:Bool):Bool:=bif n==[64]||[n.getLastD 0]==[46] then false else xK n a8
theorem xM {n j:Nat}{i:Int}(a: -1000000000<=i/\i<=1000000000)(b:(if i<0 then i+n else i)=j)(c:j<n):fL n i=some j:=by unfold fL seqIndex?;exact B (aG a) (B b (aG (by rw[f3 (fH j),f3 (f5.mpr c)];rfl)))
theorem MU (m:Nat):fL (m+1) (-1)=some m:=xM dc ((Int.add_comm _ _).trans (Int.add_neg_cancel_right (m:Int) 1)) (Nat.lt_succ_self m)
theorem abd (b:n≠[]):ix Y (.str n) (.int (-1))=some (.str [n.getLastD 0]):=by
 cases n with
 |nil=>exact absurd rfl b
 |cons a r=>refine(?_:(fL (r.length+1) (-1)).bind _=_);rw[MU];refine(?_:((a::r)[(a::r).length-1]?).map _=_);rw[←List.getLast?_eq_getElem?,List.getLastD_eq_getLast?,List.getLast?_eq_some_getLast b];rfl
theorem abe {Y:AH}{n:Bs}(b:n≠[]):ix Y (.str n) (.int 0)=some (.str [n.headD 0]):=by
 refine((B (xM (j:=0) dc rfl (List.length_pos_iff.mpr b)) ?_):(fL n.length 0).bind _=_);cases n with
 |nil=>exact absurd rfl b
 |cons a r=>rfl
inductive nQ (n:Bs):Prop
 |mk (b:n≠[]) (len:n.length<=1000) (all:∀c∈n,c<256) (a:(eF n [47]).length<=1000) (d:∀x∈eF n [47],x.length<=1000)
def rI (n:Bs):Bool:=(!n.isEmpty&&Nat.ble n.length 1000)&&(n.all (Nat.blt · 256)&&(Nat.ble (eF n [47]).length 1000&&(eF n [47]).all (Nat.ble ·.length 1000)))
theorem nR (h:rI n=true):nQ n:=⟨λe=>(by rw[e] at h;injection h),Nat.le_of_ble_eq_true (V (V h).1).2,λc m=>Nat.le_of_ble_eq_true (bI.mp (V (V h).2).1 c m),Nat.le_of_ble_eq_true (V (V (V h).2).2).1,λx m=>Nat.le_of_ble_eq_true (bI.mp (V (V (V h).2).2).2 x m)⟩
theorem bL (h:n<=1000):n<=aI:=Nat.le_trans h dc
section
variable {A H:Prop}
theorem Fq (h:a=true->A)(k:a=false->N):if a=false then N else if a=true then A else H:=by
 cases a with
 |true=>exact h rfl
 |false=>exact k rfl
theorem rJ (h:if a=true then A else H):if a=false then(if false=true then A else H) else if a=true then A else H:=by cases a<;>exact h
theorem AZ (h:if(a||b)=true then A else H):if a=false then(if b=false then(if false=true then A else H) else if b=true then A else H) else if a=true then A else H:=by cases a<;>cases b<;>exact h
theorem or3 (h:if(a||(b||c))=true then A else H):if a=false then(if b=false then(if c=false then(if false=true then A else H) else if c=true then A else H) else if b=true then A else H) else if a=true then A else H:=by
 cases a
 ·exact AZ h
 ·exact h
theorem or4 (h:if(a||(b||(c||d)))=true then A else H):if a=false then(if b=false then(if c=false then(if d=false then(if false=true then A else H) else if d=true then A else H) else if c=true then A else H) else if b=true then A else H) else if a=true then A else H:=by
 cases a
 ·exact or3 h
 ·exact h
theorem abh (h:if(a&&b)=true then A else H):if a=true then(if b=true then(if true=true then A else H) else if b=true then A else H) else if a=true then A else H:=by cases a<;>cases b<;>exact h
end
section
variable (C:Ck a)
include C
theorem MV {a8:Bool}(w:nQ n)(k:gA n a8=true->∀b,ay Y b->Q .none b)(d:gA n a8=false->∀b,ay Y b->X .i8 (.str n) b):
  Ss a a6 (a6 .px-1) false EI (L1 (.str n) (L1 (.bool a8) (L0 (L0 (L0 (L0 [])))))) (cj Q) (h8 X) Y:=by
 obtain⟨s,A,O,t,H⟩:=w;unfold EI;w_up;k_go;refine⟨rfl,aE rfl ?_⟩;x_go;refine gW rfl (gW (eA.mpr s) (B (abd s) ?_));x_go;refine AZ (nK (λe=>?_) λe1=>sk ?_)
 ·have e:gA n a8=false:=by unfold gA;refine B e ?_;rfl
  k_go;exact cZ rfl rfl rfl (d e Y (ay.refl Y))
 have e:gA n a8=xK n a8:=by unfold gA;refine B e1 ?_;rfl
 rw[e] at k d;k_go;refine⟨rfl,?_⟩;refine eu (ι:=Option PV×Option PV) (λc=>PV.str [c]) (λy=>L1 (.str n) (L1 (.bool a8) (Lo y.1 (Lo y.2 (L0 (L0 [])))))) (λr b=>b=Y/\n.any xJ=r.any xJ) (λO O=>False)
  (λc r y b K j p O=>?_) (λO O O=>trivial) (λy b j=>?_) (λO O O f=>f.elim) n (none,none) Y ⟨rfl,rfl⟩
 ·obtain⟨rfl,j⟩:=j
  have j:=kM▸j;refine⟨bl,?_⟩;k_go;refine⟨rfl,aE rfl ⟨bl,?_⟩⟩;k_go;refine or4 (nK (λe=>?_) λe=>sk (sn (p (_,_) _ ⟨rfl,?_⟩)))
  ·k_go
   exact cZ rfl rfl rfl (d (by unfold xK;refine B j (B (show xJ c=true from e) ?_);rfl) _ (ay.refl _))
  ·refine B j (B (show xJ c=false from e) ?_);rfl
 obtain⟨rfl,j⟩:=j;have e:xK n a8=uh n a8:=by unfold xK;refine B j ?_;rfl
 rw[e] at k d;k_go;refine AZ (nK (λe=>?_) λe1=>sk ?_)
 ·have e:uh n a8=false:=by unfold uh;refine B e ?_;rfl
  k_go;exact cZ rfl rfl rfl (d e _ (ay.refl _))
 have e:uh n a8=ug n a8:=by unfold uh;refine B e1 ?_;rfl
 rw[e] at k d;k_go;refine yh rfl rfl rfl (λh=>by injection h) (bL A) (bL t) (λz D=>⟨bl,?_⟩);have g:=AH.a9 b z (.list ((eF n [47]).map .str));have i:=ay.set D (.list ((eF n [47]).map .str));generalize b.set z (.list ((eF n [47]).map .str))=q at g i;k_go;refine⟨rfl,aE (r:=.int (eF n [47]).length) (by show dq _ _ (q z)=_;exact B g ((aG (by rw[aW];exact bL t)).trans (by rw[aW]))) ?_⟩;x_go;refine abh (nK (λe=>?_) λe1=>sk ?_)
 ·have e:ug n a8=false:=by unfold ug;refine B e ?_;rfl
  k_go;exact cZ rfl rfl rfl (d e _ i)
 have e:ug n a8=!(eF n [47]).any nN:=by unfold ug;refine B e1 ?_;rfl
 rw[e] at k d;k_go;refine⟨rfl,cQ g ?_⟩;refine eu (ι:=Option PV) .str (λx=>L1 (.str n) (L1 (.bool a8) (Lo y.1 (Lo y.2 (L1 (.ref z) (Lo x [])))))) (λr b=>b=q/\(∀x∈r,x.length<=1000)/\(eF n [47]).any nN=r.any nN) (λO O=>False)
  (λc r y b K j p O=>?_) (λO O j=>B j.1 g) (λy b j=>?_) (λO O O f=>f.elim) _ none q (aS rfl H rfl)
 ·obtain⟨rfl,u,j⟩:=j
  have j:=kM▸j;have l:nN c=true->X .i8 (.str n) b:=λe=>d (by refine B j (B e ?_);rfl) _ i;refine⟨bl,?_⟩;k_go;refine Fq (λe=>?_) λe1=>?_
  ·k_go
   exact cZ rfl rfl rfl (l (by unfold nN;refine B e ?_;rfl))
  refine B (abe (eA.mp e1)) ?_;x_go;refine Fq (λe=>?_) λe2=>aE rfl ⟨bL (u c bP),?_⟩
  ·k_go
   exact cZ rfl rfl rfl (l (by unfold nN;refine B e1 (B e ?_);rfl))
  x_go;refine Fq (λe=>?_) λv=>jJ (sk (sn (p _ _ (aS rfl (λx m=>u x (cn _ m)) ?_))))
  ·k_go
   exact cZ rfl rfl rfl (l (by unfold nN;exact B e1 (B e2 e)))
  ·refine B j (B (show nN c=false by unfold nN;rw[e1,e2];exact v) ?_);rfl
 ·obtain⟨rfl,O,j⟩:=j
  exact tn (sn (k (by refine B j ?_;rfl) _ i))
end
noncomputable def oU (c:Nat):Bool:=(decide (([65]:Bs)<=[c])&&decide ([c]<=([90]:Bs)))||[c]==[95]
def oV (n:Bs):Bool:=n.all oU
noncomputable def kq:Bs:=[114,101,102,115,47]
def fE (n:Bs):Bool:=Txt.startswith (bp n) (bp kq)
def kv (n:Bs):Bool:=oV n||(gA n false&&fE n)
def MW (n:Bs) (i:PV):Option Bs:=i.cu (λm=>some (sU [47] (bT (eF n [47]) none (some m)))) none
def qk (n:Bs):List Bs:=(jz 1 (eF n [47]).length 1).filterMap (MW n)
def ui:List (Bs×Bs):=[([],[]),(kq,[]),(kq++[116,97,103,115,47],[]),(kq++[104,101,97,100,115,47],[]),(kq++[114,101,109,111,116,101,115,47],[]),(kq++[114,101,109,111,116,101,115,47],47::AU)]
noncomputable def iW (t:Bs):List Bs:=ui.map λy=>y.1++t++y.2
section
theorem Fs (k:Ss C d a true b e Q X Y):Sh C d a c t (.cons c none b r) e Q X Y:=by refine(?_:(if c=c then _ else _));rw[aG rfl];exact k
end
noncomputable def MX (t:Bs)(l:List PV):Bs:=(l.headD .none).d6 (λa=>(l.getD 1 .none).d6 (λb=>a++t++b) []) []
theorem MY (f:b->c)(l:List b)(lo a:Option Int):(bT l lo a).map f=bT (l.map f) lo a:=by unfold bT;rw[List.map_take,List.map_drop,aW]
theorem abi {lo a:Option Int}(m:x∈bT l lo a):x∈l:=List.mem_of_mem_drop (List.mem_of_mem_take m)
theorem uj (l:List b)(lo a:Option Int):(bT l lo a).length<=l.length:=by unfold bT;exact aw (List.length_take_le' ..) (B yB (Nat.sub_le _ _))
theorem A0:∀l:List Bs,(∀x∈l,x.length<=k)->(l.map List.length).sum<=l.length*k
 |[],_=>cI _
 |x::r,h=>by rw[c3,qA,e8,Nat.succ_mul,o8];exact qy (A0 r λy m=>h y (cn _ m)) (h x bP)
theorem Ft {lo b:PV}(e:Y a=some (.list d))(f:d.length<=aI)(c:kT d lo b=some r)(k:bw Y (.list r) Q):sX (.ref a) lo b .none Q Y:=by refine(?_:vO _ False (Y a));exact B e (aE c ⟨f,k⟩)
theorem Fu (e:Y a=some (.list d))(c:d.length=n)(b:n<=aI):gJ Y .len [.ref a]=some (.int n):=by subst c;refine(?_:dq _ _ (Y a)=_);exact B e (aG b)
theorem abj {K:Option PV->AH->Prop}(h:K (some (.bool (a&&b||e))) Y):if a=true then(if b=false then K (some (.bool e)) Y else K (some (.bool b)) Y) else if false=false then K (some (.bool e)) Y else K (some (.bool false)) Y:=by cases a<;>cases b<;>exact h
section
variable (C:Ck d)(a:nQ n)
include C a
theorem MZ {a8:Bool}(k:gA n a8=true->∀b,ay Y b->Q .none b)(c:gA n a8=false->∀b,ay Y b->X .i8 (.str n) b):d false .px [.str n,.bool a8] Q X Y:=aZ (j:=1) L8 C (MV C a k c)
theorem abk (k:gA n false=true->∀b,ay Y b->Q .none b)(c:gA n false=false->∀b,ay Y b->X .i8 (.str n) b):d false .px [.str n] Q X Y:=aZ (j:=0) L8 C (MV C a k c)
theorem A3 (k:∀b,ay Y b->Q (.bool (gA n false)) b):d false .mT [.str n] Q X Y:=by
 refine aZ (j:=0) Zi C ?_;w_up;k_go;refine⟨bl,?_⟩;k_go;k_go;refine⟨dc,MZ C a (λe b x=>sk ?_) λe b x=>Fs ?_⟩
 ·rw[e] at k
  k_go;exact k _ x
 ·rw[e] at k
  k_go;refine⟨bl,sk ?_⟩;k_go;exact k _ x
theorem xN (k:∀g,ay Y g->Q (.bool (oV n)) g):d false .lQ [.str n] Q X Y:=by
 obtain⟨i,e,O,O,O⟩:=a;refine aZ Zj C ?_;w_up;k_go;refine⟨rfl,aE rfl ?_⟩;x_go;refine gW rfl (rJ (dB (eA.mpr i) (sk ?_)));k_go;refine cZ rfl rfl (by rw[aW];exact bL e) (ib (λx=>x.d6 (λl=>some (PV.bool (oU (l.headD 0)))) none) trivial _ [] (λx m K p=>?_) ?_)
 ·refine ai (bJ.mp m) λc r h=>?_;subst h
  refine⟨bl,?_⟩;x_go;exact abj p
 rw[gH,((map_some (λ(c:Nat)=>PV.str [c]) (λx=>x.d6 (λl=>some (PV.bool (oU (l.headD 0)))) none) (λ(c:Nat)=>PV.bool (oU c)) (λc=>rfl) n).trans (cV ..).symm)];refine⟨by rw[aW,aW];exact bL e,λz j=>?_⟩;have b:=AH.a9 Y z (.list ((n.map oU).map .bool));have f:=ay.set j (.list ((n.map oU).map .bool));generalize Y.set z (.list ((n.map oU).map .bool))=q at b f;refine aE (r:=.bool (oV n)) (?_:dq _ _ (q z)=_) (k _ f);rw[b];refine(?_:(vS ((n.map oU).map .bool)).map _=_);rw[E1];refine(?_:some (PV.bool ((n.map oU).all id))=_);rw[List.all_map];rfl
theorem M1 (ok:kv n=true)(k:∀c,ay Y c->Q .none c):d false .vF [.str n] Q X Y:=by
 refine aZ Zk C ?_;w_up;k_go;refine⟨dc,xN C a λg b=>?_⟩;x_go;unfold kv at ok;refine nK (λO=>?_) λe=>sk ?_
 ·k_go
  exact k _ b
 rw[e,Bool.false_or] at ok;k_go;refine⟨dc,abk C a (λO i f=>?_) λe=>absurd ((V ok).1.symm.trans e) (λh=>by injection h)⟩;k_go;exact cZ rfl rfl rfl (aE rfl (dB (br Bool.not (V ok).2) (sk (sn (k _ (b.trans f))))))
theorem M3 (k:∀j z,ay Y j->Y z=none->j z=some (.list ((qk n).map .str))->Q (.ref z) j):d false .vG [.str n] Q X Y:=by
 obtain⟨O,r,O,b,s⟩:=a;refine aZ Zl C ?_;w_up;k_go;refine yh rfl rfl rfl (λh=>by injection h) (bL r) (bL b) (λz f=>⟨bl,?_⟩);have c:=AH.a9 Y z (.list ((eF n [47]).map .str));have g:=ay.set f (.list ((eF n [47]).map .str));generalize Y.set z (.list ((eF n [47]).map .str))=t at c g;k_go;refine aS rfl rfl (aE (r:=.int (eF n [47]).length) (Fu c (by rw[aW]) (bL b)) ?_);refine⟨(aS ⟨dc,dc⟩ ⟨dc,dc⟩ (vu (by assumption) dc)),?_⟩;refine⟨by unfold jz;rw[aW,kJ];refine aw ?_ (bL b);rw[Int.ediv_one,Int.sub_add_cancel];exact qB.mpr (Int.sub_le_self _ dc),xv (λx=>(MW n x).map .str) (λO O=>trivial) _ [] t (ay.refl _) (λx m Y K e p=>?_) λj e=>?_⟩
 ·refine ai (bJ.mp m) λi O q=>?_;subst q
  refine⟨bl,gR rfl (aS rfl rfl (Ft (e _ _ c) (by rw[aW];exact bL b) (br some (MY PV.str (eF n [47]) none (some (1+1*(i:Int)))).symm) λz f=>⟨rfl,oP (AH.a9 ..) (aE (t9 _) ⟨EY ?_,p _ (ay.set f _)⟩)⟩))⟩;have u:=uj (eF n [47]) none (some (1+1*(i:Int)));have:=A0 (k:=1000) (bT (eF n [47]) none (some (1+1*(i:Int)))) λy m=>s y (abi m);refine(?_:_+_*1<=aI);unfold aI;clear p e c g f k;omega
 rw[gH,←List.map_filterMap];exact⟨by rw[aW];refine aw (List.length_filterMap_le _ _) ?_;unfold jz;rw[aW,kJ];refine aw ?_ (bL b);rw[Int.ediv_one,Int.sub_add_cancel];exact qB.mpr (Int.sub_le_self _ dc),λy l=>k _ y (((g.trans e)).trans (ay.set l _)) ((g.trans e).none l) (AH.a9 ..)⟩
omit a in
theorem Fv (e:n.length<=1000)(k:∀c z,ay Y c->Y z=none->c z=some (.list ((iW n).map .str))->Q (.ref z) c):d false .sC [.str n] Q X Y:=by
 refine aZ Zm C ?_;w_up;k_go;have b:∀y∈ui,y.1.length<=100/\y.2.length<=100:=dc;refine aS rfl (bl) (ib (λx=>x.jW (λl=>some (PV.str (MX n l))) none) trivial (ui.map λy=>PV.av [.str y.1,.str y.2]) [] (λx m K h=>?_) ?_)
 ·refine ai (bJ.mp m) λy i g=>?_;subst g
  have b:=b y i;refine gm rfl rfl (bl) (bl) (gR rfl (qb (aw (qy b.1 e) dc) (qb (B bR (aw (qy (qy b.1 e) b.2) dc)) h)))
 rw[gH,(rfl:(ui.map λy=>PV.av [.str y.1,.str y.2]).filterMap (λx=>x.jW (λl=>some (PV.str (MX n l))) none)=(iW n).map .str)];exact⟨bl,λz f=>k _ z (ay.set f _) f (AH.a9 ..)⟩
end
def mB:Bs:=gp jL
noncomputable def under (b p:Bs):Bool:=(b++[47]).isPrefixOf p
def UP:List (Bs×Bs):=(dO.flatMap dM).eraseDups
def Fo:List Bs:=((UP.map (·.1)).filter λf=>f==mB||under mB f).eraseDups
def Ub:List Bs:=dO.filter (under mB)
def uk (f:Bs):List Bs:=(UP.filter (·.1==f)).map (·.2)
def wt (p:Bs):Nat:=((dO++Fo).filter λq=>q==p||under p q).length
theorem Fw:(((Nat.ble (wt mB) 63&&Fo.contains mB)&&(Fo.all λf=>Nat.ble (((uk f).map λn=>wt (dY f n)).sum+1) (wt f)&&(Nat.ble f.length 100&&(uk f).all λn=>Nat.ble n.length 100&&bif dO.contains (dY f n) then Ub.contains (dY f n)&&Nat.ble 1 (wt (dY f n)) else Fo.contains (dY f n))))&&
  (dO.all λu=>(dM u).all λy=>dY y.1 y.2==u||(dM u).any λz=>z.1==dY y.1 y.2))=true:=by kernel_rfl
theorem M4 [DecidableEq b](f:b->Nat):∀{r K:List b},r.Nodup->(∀x∈r,x∈K)->(r.map f).sum<=(K.map f).sum
 |[],_,_,_=>cI _
 |x::r,K,a,s=>by rw[g9] at a;exact B c3 (B qA (B (((List.perm_cons_erase (s x bP)).map f).sum_nat) (B c3 (B qA (jQ (M4 f (r:=r) (K:=K.erase x) a.2 λy m=>(List.mem_erase_of_ne λq=>a.1 (by exact az q m)).mpr (s y (cn _ m))) _)))))
inductive abl (f:Bs):Prop
 |mk (w:((uk f).map λn=>wt (dY f n)).sum+1<=wt f) (len:f.length<=100) (k:∀n∈uk f,n.length<=100/\(dY f n∈dO->dY f n∈Ub/\1<=wt (dY f n))/\(dY f n∉dO->dY f n∈Fo))
theorem Fx (h:f∈Fo):abl f:=by
 have:=bI.mp (V (V Fw).1).2 f h;refine⟨Nat.le_of_ble_eq_true (V this).1,Nat.le_of_ble_eq_true (V (V this).2).1,λn m=>?_⟩;have:=bI.mp (V (V this).2).2 n m;refine⟨Nat.le_of_ble_eq_true (V this).1,λu=>?_,λu=>?_⟩
 ·have:=(V this).2
  rw[i6.mpr u] at this;exact⟨i6.mp (V this).1,Nat.le_of_ble_eq_true (V this).2⟩
 ·have:=(V this).2
  rw[Bool.eq_false_iff.mpr λe=>u (i6.mp e)] at this;exact i6.mp this
theorem abm (a:u∈dO)(m:p∈dM u):p.2∈uk p.1:=
 bJ.mpr (aQ p (se.mpr ⟨List.mem_eraseDups.mpr (List.mem_flatMap.mpr (aQ u a m)),ej _⟩) rfl)
section
variable {F:bH}(f:Fi d F D)(x:fC Y D)
include f x
theorem M5 (h:a∈Fo)(m:(a,n)∈iI D.F):n.length<=100/\n∈uk a/\if(F (dY a n)).isSome=true then dY a n∈Ub/\1<=wt (dY a n) else dY a n∈Fo:=by
 unfold iI at m;refine ai (List.mem_flatMap.mp m) λy j m=>?_;have c:=f.has j x.fk;have b:=f.rH c;have g:=abm b m;obtain⟨O,O,k⟩:=Fx h;refine dD (k n g) λi k1 k2=>aS i g ?_;split
 ·rename_i e
  exact Ke (uF.mp e) λo e=>k1 (f.rH e)
 ·rename_i e
  refine k2 λu=>?_;have:=bI.mp (bI.mp (V Fw).2 _ b) _ m;rcases Bool.or_eq_true_iff.mp this with q|q
  ·rw[bG] at q
   exact e (by refine B (q:dY a n=y.1) (B c ?_);rfl)
  ·exact ai (uQ.mp q) λz l q=>Fd u b z l (bG.mp q)
omit f in
theorem abn (h:D.H.lookup e=some (a,N))(m:n∈N.map (·.1)):(e,n)∈iI D.F:=by
 refine ai (bJ.mp m) λy b c=>az c (E8 ?_);rw[←x.ok.rG,E9 h,jK (x.ok.kj _ _ _ h).2.2 b];have:=(x.ok.kj _ _ _ h).2.1 y.1;rw[jK (x.ok.kj _ _ _ h).2.2 b] at this;cases q:y.2 with
 |zero=>rw[q] at this;exact absurd rfl this
 |succ v=>exact fZ (cI _)
end
theorem um (e:Y a=some (.list g))(b:Y z=some (.list []))(c:a≠z):dG Y .ne (.ref a) (.ref z)=some (!(g.length==0)):=by refine((B (aH c) (B (kc e) (B (kc b) ?_))):(if a=z then none else dq (λd=>dq (λf=>kQ (eS Y 3) d f) none (Y z)) none (Y a)).map _=_);unfold kQ;refine B List.zipWith_nil_right ?_;rfl
theorem abo (R:ι->aP)(J:Nat->AH->Prop)
  (h:∀(m:Nat) (y:ι) (Y:AH) (K:Fl->aP->AH->Prop),J m Y->(∀a c d,a<m->J a d->K .next (R c) d)->g (R y) Y λb Y=>if b then H (R y) Y K else Q .next (R y) Y) (m:Nat) (y:ι) (Y:AH) (j:J m Y):vV g H Q (R y) Y:=
 ⟨λm f Y=>∃y,f=R y/\J m Y,m,⟨y,rfl,j⟩,λm f Y ⟨y,e,j⟩=>by refine B e ?_;exact h m y Y _ j λa c d l i=>aQ a l (aQ c rfl i)⟩
theorem abp (l:List Bs):ot (l.map .bytes)=some ((dS l).map .bytes):=by
 cases l with
 |nil=>rfl
 |cons a r=>refine(?_:(mW ((a::r).map .bytes)).map _=_);rw[EZ];rfl
inductive kB (F:bH)(d w:List Bs)(c m:Nat):Prop
 |mk (a:∀p∈d,(F p).isSome=true/\p∈Ub) (b:∀p∈w,p∈Fo) (e:d.length+((w.map wt).sum+c)<=63) (l:(w.map wt).sum+c<=m)
theorem M6:∀w:List Bs,(∀p∈w,p∈Fo)->w.length<=(w.map wt).sum
 |[],_=>cI _
 |p::r,h=>by rw[c3,qA,e8,o8];exact qy ((by obtain⟨w,O,O⟩:=Fx (h p bP);exact aw (fZ (cI _)) w)) (M6 r λq m=>h q (cn _ m))
theorem kB.dN {F:bH}(i:kB F a w c m):(w.map PV.bytes).length<=aI:=by obtain⟨O,b,e,O⟩:=i;have:=M6 w b;rw[aW];exact bL (aw this (aw (gn _ c) (aw (Nat.le_add_left _ _) (aw e dc))))
theorem kB.file {F:bH}(i:kB F d w (wt p+c) m)(h:(F p).isSome=true)(u:p∈Ub)(f:1<=wt p):kB F (d++[p]) w c m:=by
 obtain⟨a,b,e,l⟩:=i;refine⟨λq m=>?_,b,by rw[bR,mN];exact aw (jQ (by rw[Nat.add_left_comm];exact jQ (n4 f c) _) _) e,aw (jQ (Nat.le_add_left c _) _) l⟩;rcases hG.mp m with m|m
 ·exact a q m
 ·exact B (eR.mp m) ⟨h,u⟩
theorem kB.kP {F:bH}(i:kB F d w (wt p+c) m)(u:p∈Fo):kB F d (w++[p]) c m:=by
 obtain⟨a,b,e,l⟩:=i;have s:((w++[p]).map wt).sum=(w.map wt).sum+wt p:=by rw[cF,List.sum_append];rfl
 refine⟨a,λq m=>?_,by rw[s,mN (w.map wt).sum];exact e,by rw[s,mN (w.map wt).sum];exact l⟩;rcases hG.mp m with m|m
 ·exact b q m
 ·rw[eR.mp m];exact u
theorem kB.fJ {F:bH}(i:kB F f (w++[p]) 0 m)(h:c+1<=wt p):∃d,d<m/\kB F f w c d:=by
 obtain⟨a,b,e,l⟩:=i;have s:((w++[p]).map wt).sum=(w.map wt).sum+wt p:=by refine B cF (B List.sum_append ?_);rfl
 rw[s] at e l;exact aQ ((w.map wt).sum+c) (lG (yp h _) l) ⟨a,λq m=>b q (r8 _ m),aw (jQ (jQ (ip h) _) _) e,dE _⟩
section
variable (C:Ck g){F:bH}
include C
theorem abq (x:St d F J Y)(k:∀σ' z (ls:List Bs),St d F ((z,.list (ls.map .bytes))::J) σ'->ls.length<64->(∀p∈ls,(F p).isSome=true/\p∈Ub)->Q (.ref z) σ'):g false .BJ [.ref d,.bytes mB] Q X Y:=by
 obtain⟨D,f,s⟩:=x;obtain⟨jZ,hF,O⟩:=id f;refine az jZ ?_;refine aZ Y5 C ?_;w_up;k_go;refine⟨bl,λH h₁=>⟨bl,λA dH=>jt (bl) rfl rfl (bl) (bl) ?_⟩⟩;have s:=(s.new h₁ (.list [])).new dH (.list [.bytes mB]);generalize (Y.set H _).set A _=bX at s;k_go;have t0:=(V (V Fw).1).1;refine abo (ι:=Option PV×Option PV×Option PV) (λy=>L1 (.ref D.d) (L1 (.bytes mB) (L1 (.ref H) (L1 (.ref A) (Lo y.1 (Lo y.2.1 (Lo y.2.2 []))))))) (λm Y=>∃c w:List Bs,Sd D ((A,.list (w.map .bytes))::(H,.list (c.map .bytes))::J) Y/\kB F c w 0 m)
  (λm y Y K j I=>?_) 63 (none,none,none) bX (gE [] [mB] s ⟨(by intros;contradiction),λp m=>by refine B (eR.mp m) ?_;exact i6.mp (V t0).2,Nat.le_of_ble_eq_true (V t0).1,Nat.le_of_ble_eq_true (V t0).1⟩)
 refine fj j λc w s i=>?_;x_go;refine⟨bl,λz u=>aE (um (fg u (s.o 0 rfl)) (AH.a9 ..) λe=>?_) ?_⟩
 ·rw[←e,s.o 0 rfl] at u;cases u
 have s:=s.ext (ay.set u (.list []));generalize Y.set z _=Y at s;rcases ym w with rfl|⟨w,t,e⟩
 ·refine jJ ?_
  k_go;obtain⟨ia,O,L,O⟩:=i;refine⟨rfl,Mn (s.o 1 rfl) (abp c) (by rw[aW];exact uN (aw (gn _ _) L)) λz u=>?_⟩;have s:=(s.drop.drop.new u (.list ((dS c).map .bytes)));exact k _ z _ ⟨D,f,s⟩ (by exact B ((iR c).length_eq) (uN (aw (gn _ _) L))) λp m=>ia p ((iR c).mem_iff.mp m)
 rw[yn] at e;subst e;refine gR (by refine B cF (B bR ?_);rfl) ?_;k_go;refine lb (s.o 0 rfl) (aS rfl rfl (lg (s.o 0 rfl) (aE (r:=.bytes t) (by exact B cF (List.getLast?_concat)) ⟨i.dN,?_⟩)));refine B cF (B (show(w.map PV.bytes++[t].map PV.bytes).dropLast=w.map PV.bytes from List.dropLast_concat) ?_);have s:=s.dt (.list (w.map .bytes));generalize Y.set A _=Y at s;refine⟨bl,?_⟩;k_go;have hh:t∈Fo:=by obtain⟨O,b,O,O⟩:=i;exact b t (fX _ bP)
 obtain⟨hw,hlen,O⟩:=Fx hh;obtain⟨x,O,O⟩:=id s;refine Ke x.aa.bl λeb e=>Ke x.aa.fl λef e0=>⟨rfl,bx x.aa.dk rfl (ub D.f D.b) (nH e (aS rfl rfl (λG z u=>?_)))⟩;have s:=s.ext (ay.set u (.dict G []));have ez:=AH.a9 Y z (.dict G []);have e:=fg (o:=.dict G []) u e;have e1:∀a o,Y a=some o->Y.set z (.dict G []) a=some o:=ay.set u _;refine nI e ⟨gU _ _ _,?_⟩;rw[nM];cases hl:D.H.lookup t with
 |none=>exact ai (i.fJ (c:=0) (aw (fZ (cI _)) hw)) λM l i=>ES ez (tn (sn (I M (_,_,_) _ l (gE c w s i))))
 |some v=>
  obtain⟨a,N⟩:=v;refine Ke (x.aa.sub _ (mx hl)) λen e2=>?_;have e2:=e1 _ _ e2;have hk:(cm fS N).map (·.1)=(N.map (·.1)).map PV.bytes:=by unfold cm;refine B cV (B cV ?_);rfl
  have M7:∀n∈N.map (·.1),(t,n)∈iI D.F:=λn m=>abn x hl m;refine ai (i.fJ (c:=((N.map (·.1)).map λn=>wt (dY t n)).sum) (aw (fZ (M4 _ (x.ok.kj _ _ _ hl).2.2 λn m=>(M5 f x hh (M7 n m)).2.1)) hw)) λM l i=>ES e2 (B hk ?_);generalize Y.set z (.dict G [])=Y at s e2;clear e1 e ez;refine eu (ι:=Option PV×Option PV) PV.bytes (λy=>L1 (.ref D.d) (L1 (.bytes mB) (L1 (.ref H) (L1 (.ref A) (L1 (.bytes t) (Lo y.1 (Lo y.2 []))))))) (λr Y=>(∃c w:List Bs,Sd D ((A,.list (w.map .bytes))::(H,.list (c.map .bytes))::J) Y/\kB F c w (r.map λn=>wt (dY t n)).sum M)/\(∀n∈r,(t,n)∈iI D.F)/\Y a=some (.dict en (cm fS N))) (λO O=>False)
   (λn r y Y K j I O=>?_) (λO O j=>j.2.2) (λy Y j=>?_) (λO O O f=>f.elim) _ (_,_) Y (aS (gE c w s i) M7 e2)
  ·refine dD j λabr j e2=>fj abr λc w s i=>?_
   obtain⟨x,O,O⟩:=id s;refine Ke x.aa.fl λef e0=>dD (M5 f x hh (j n bP)) λhn O U=>⟨bl,?_⟩;k_go;refine⟨dc,Mz C (by unfold aI;lia) ⟨bl,?_⟩⟩;k_go;refine bx x.aa.dk rfl (rE D.f D.b) (aE (lh e0 (gU _ _ _)) ?_);rw[qg,hF];obtain⟨O,O,L,O⟩:=id i;have lf:(c.map PV.bytes).length<=aI:=by rw[aW];exact bL (aw (gn _ _) (aw L dc))
   have na:∀{b:Addr} {xs:List PV},Y b=some (.list xs)->∀o,Y.set b o a=some (.dict en (cm fS N)):=λeb o=>by exact B (AH.cJ _ _ λq=>by rw[←q,e2] at eb;cases eb) e2
   refine nK (λh=>?_) λh=>?_
   ·rw[aG h] at U
    k_go;refine lb (s.o 1 rfl) (aS rfl rfl (lg (s.o 1 rfl) ⟨lf,?_⟩));have s1:Sd D ((H,.list ((c++[dY t n]).map .bytes))::(A,.list (w.map .bytes))::J) (Y.set H (.list (c.map .bytes++[.bytes (dY t n)]))):=by exact B cF ((s.aX 1 rfl).dt _)
    exact sk (sn (I (_,_) _ (aS (gE _ w (s1.aX 1 rfl) (i.file h U.1 U.2)) (λn m=>j n (cn _ m)) (na (s.o 1 rfl) _))))
   ·rw[aH (by exact B h dz)] at U
    k_go;refine lb (s.o 0 rfl) (aS rfl rfl (lg (s.o 0 rfl) ⟨i.dN,?_⟩));have s1:Sd D ((A,.list ((w++[dY t n]).map .bytes))::(H,.list (c.map .bytes))::J) (Y.set A (.list (w.map .bytes++[.bytes (dY t n)]))):=by exact B cF (s.dt _)
    exact sk (sn (I (_,_) _ (aS (gE c _ s1 (i.kP U)) (λn m=>j n (cn _ m)) (na (s.o 0 rfl) _))))
  ·exact dD j λabt O O=>fj abt λc w s i=>tn (sn (I M (_,_,_) _ l (gE c w s i)))
end
noncomputable def gX (n:Nat):Nat:=if n<10 then 48+n else 87+n
noncomputable def uo:Bs:=[48,49,50,51,52,53,54,55,56,57,97,98,99,100,101,102]
def dj:Bs->Bs
 |[]=>[]
 |o::r=>gX (o/16)::gX (o%16)::dj r
theorem abu:(List.range 16).all (λn=>uo[n]? ==some (gX n)&&(Txt.find (bp uo) (bp [gX n])==(n:Int)&&(Nat.blt (gX n) 256&&[48,49,50,51,52,53,54,55,56,57,97,98,99,100,101,102,65,66,67,68,69,70].contains (gX n))))=true:=by kernel_rfl
inductive abv (n:Nat):Prop
 |mk (a:uo[n]? =some (gX n)) (b:Txt.find (bp uo) (bp [gX n])=n) (c:gX n<256) (d:[48,49,50,51,52,53,54,55,56,57,97,98,99,100,101,102,65,66,67,68,69,70].contains (gX n)=true)
theorem uq (h:n<16):abv n:=by have:=bI.mp abu n (ik.mpr h);exact⟨bG.mp (V this).1,bG.mp (V (V this).2).1,Nat.le_of_ble_eq_true (V (V (V this).2).2).1,(V (V (V this).2).2).2⟩
theorem M8 (a b:Bs):dj (a++b)=dj a++dj b:=by
 induction a with
 |nil=>rfl
 |cons x r c=>exact br (λy=>gX (x/16)::gX (x%16)::y) c
theorem mC (a:Bs):(dj a).length=2*a.length:=by
 induction a with
 |nil=>rfl
 |cons x r b=>show(dj r).length+1+1=2*(r.length+1);refine B b ?_;rfl
theorem M9 {n:Nat}(h:n<16):ix Y Gl.sv.pv (.int (n:Int))=some (.str [gX n]):=by obtain⟨a,O,O,O⟩:=uq h;refine(?_:(fL 16 n).bind _=_);refine B (xM (j:=n) (by lia) (aH (jv.mpr (fH n))) h) (?_:(uo[n]?).map _=_);refine B a ?_;rfl
theorem abw (l:Bs):kR (l.map λc=>PV.str [c])=some (l.map λc=>[c]):=by refine az (t9 (l.map λc=>[c])) (B cV ?_);rfl
section
variable (C:Ck g){o:Bs}(b:∀c∈o,c<256)(d:o.length<=1000)
include C b d
theorem Nb (k:∀h,ay Y h->Q (.str (dj o)) h):g false .sx [.bytes o] Q X Y:=by
 refine aZ YV C ?_;w_up;k_go;refine⟨bl,λz m=>⟨bl,?_⟩⟩;k_go;refine⟨rfl,?_⟩;refine eu (ι:=Option PV) (λc:Nat=>PV.int c) (λy=>L1 (.bytes o) (L1 (.ref z) (Lo y []))) (λr h=>∃i,o=i++r/\h z=some (.list ((dj i).map λc=>PV.str [c]))/\ay Y h) (λO O=>False)
  (λc r y h K j t O=>?_) (λO O O=>trivial) (λy h j=>?_) (λO O O f=>f.elim) o none _ (gD [] rfl (AH.a9 ..) (ay.set m _))
 ·refine gk j λi e l x=>?_
  have w:c<256:=b c (B e (fX _ bP));obtain⟨u,O,O,O⟩:=uq (n:=c/16) (Nat.div_lt_of_lt_mul (by assumption));obtain⟨v,O,O,O⟩:=uq (n:=c%16) (Nat.mod_lt _ dc);refine⟨bl,?_⟩;k_go;have s:(dj i).length<=2000:=by rw[mC];exact Nat.mul_le_mul_left 2 (aw (by exact B e (B bR (gn _ _))) d)
  refine lb l (aS rfl rfl (aap (fH c) (aE (M9 (n:=c/16) (Nat.div_lt_of_lt_mul (by assumption))) (lg l ⟨by rw[aW];exact aw s dc,?_⟩))));have n:=AH.a9 h z (.list ((dj i).map (λc=>PV.str [c])++[.str [gX (c/16)]]));k_go;refine lb n (aS rfl rfl (aaq (fH c) (aE (M9 (n:=c%16) (Nat.mod_lt _ dc)) (lg n ⟨by rw[bR,aW];exact aw (n4 s 1) dc,sn (t _ _ (gD (i++[c]) (by rw[e,e6];rfl) ?_ ?_))⟩))))
  ·rw[AH.a9,M8,cF,e6];rfl
  ·exact λa p e=>(AH.cJ _ _ λq=>by rw[q,m] at e;injection e).trans ((AH.cJ _ _ λq=>by rw[q,m] at e;injection e).trans (x a p e))
 ·refine gk j λi e l x=>?_
  rw[eB] at e;subst e;k_go;refine cZ rfl rfl rfl (oP l (aE (abw _) ⟨EY (by rw[My,mC];show 2*o.length+_*0<=aI;unfold aI;exact sq (by assumption) dc),?_⟩));rw[Mu,AL,Mx];exact k _ x
end
theorem abx (a:Bs)(c:Nat)(r:Bs):(dj (a++c::r))[2*a.length]? =some (gX (c/16))/\(dj (a++c::r))[2*a.length+1]? =some (gX (c%16)):=by rw[M8,←mC a,Bx (dE _),Bx (gn _ 1),Nat.sub_self,show(dj a).length+1-(dj a).length=1 from Nat.add_sub_cancel_left ..];exact⟨rfl,rfl⟩
theorem Nc {j c:Nat}(h:l[j]? =some c)(a:j<=1000000):ix Y (.str l) (.int (j:Int))=some (.str [c]):=by refine(?_:(fL l.length j).bind _=_);refine B (xM (j:=j) (OX bW dc) (aH (jv.mpr (fH j))) (kH.mp h).1) (?_:(l[j]?).map _=_);refine B h ?_;rfl
@[irreducible] def ql (i:Nat):Int:=(2*i:Nat)
theorem aby {Y:AH}{i c:Nat}(h:l[2*i]? =some c)(a:i<=1000):ix Y (.str l) (.int (ql i))=some (.str [c]):=by unfold ql;exact Nc h (sq bW dc)
theorem abz {Y:AH}{i c:Nat}(h:l[2*i+1]? =some c)(a:i<=1000):ix Y (.str l) (.int (ql i+1))=some (.str [c]):=by unfold ql;exact B (show((2*i:Nat):Int)+1=((2*i+1:Nat):Int) by rfl) (Nc h (Gq bW dc))
theorem Nd {a:aP}(e:a[i]? =some (some v))(k:Q v):lT a i Q:=by unfold lT;exact B e k
theorem len_str {Y:AH}(h:l.length<=aI):gJ Y .len [.str l]=some (.int l.length):=if_pos (ry h)
theorem len_bytes (h:l.length<=aI):gJ Y .len [.bytes l]=some (.int l.length):=if_pos (ry h)
theorem abA (h:n<16)(k:Q (.int n) Y):hS .find Gl.sv.pv [.str [gX n]] Q Y:=by obtain⟨O,b,O,O⟩:=uq h;exact((B b k):Q (.int (Txt.find (bp uo) (bp [gX n]))) Y)
theorem abB {Y:AH}(e:Y z=some (.list (l.map λ(c:Nat)=>PV.int c)))(h:∀c∈l,c<256)(g:l.length<=aI):gJ Y .bytes [.ref z]=some (.bytes l):=by
 have b:(((l.map λ(c:Nat)=>(c:Int)).all λi=>decide (0<=i/\i<256))&&decide ((l.map λ(c:Nat)=>(c:Int)).length<=aI))=true:=by rw[Bool.and_eq_true,bI,aW];exact⟨λi m=>(ai (bJ.mp m) λc f a=>az a (f3 ⟨fH c,f5.mpr (h c f)⟩)),f3 g⟩
 have d:(l.map λ(c:Nat)=>(c:Int)).map Int.toNat=l:=by exact B cV ((gF λc O=>rfl).trans (sh l))
 refine(?_:dq _ _ (Y z)=_);refine B e (?_:(vR (l.map λ(c:Nat)=>PV.int c)).bind _=_);rw[show(l.map λ(c:Nat)=>PV.int c)=(l.map λ(c:Nat)=>(c:Int)).map .int from(cV ..).symm,E0];exact(aG b).trans (B d rfl)
theorem abC (n:Nat):((((2*n:Nat):Int)-0+2-1)/2).toNat=n:=by rw[Int.sub_zero,Int.add_sub_assoc];exact Nat.mul_add_div (Nat.zero_lt_succ 1) n 1
theorem abD (n:Nat):(((2*n:Nat):Int)%2==0)=true:=beq_iff_eq.mpr (congrArg Int.ofNat (Nat.mul_mod_right 2 n))
theorem abE {c:Type}{a b:List c}(h:(a++b).length<=n):a.length<=n:=Nat.le_trans (by exact B List.length_append (Nat.le_add_right _ _)) h
section
variable (C:Ck l)
include C
theorem Nf {n:Nat}(h:n<16)(k:Q (.int n) Y):l false .vA [.str [gX n]] Q X Y:=by refine aZ YW C ?_;w_up;k_go;refine cZ rfl rfl rfl (abA h ⟨bl,?_⟩);have e:decide ((n:Int)<0)=false:=iM (jv.mpr (fH n));k_go;refine dB e (dB e (sk ?_));k_go;exact gR (f3 (fH n)) k
variable {o:Bs}(d:∀c∈o,c<256)(g:o.length<=1000)
include d g
theorem abF (k:∀n,ay Y n->Q (.bytes o) n):l false .yL [.str (dj o)] Q X Y:=by
 refine aZ YX C ?_;w_up;k_go;have I:(dj o).length<=aI:=by rw[mC];unfold aI;exact sq (by assumption) dc
 refine⟨rfl,aE (len_str I) (mr dc ?_)⟩;x_go;refine dB ?_ (sk ?_)
 ·rw[mC]
  show(!(((2*o.length:Nat):Int)%2==0))=false;rw[abD];rfl
 k_go;refine⟨bl,λz D=>⟨bl,?_⟩⟩;k_go;refine aS rfl rfl (aE (len_str I) ?_);x_go;have L:jz 0 ((dj o).length:Int) 2=(List.range' 0 o.length).map λi=>PV.int (ql i):=by unfold jz ql;rw[mC,abC,List.range_eq_range'];exact gF λi O=>by rw[Int.zero_add];rfl
 refine⟨(aS ⟨dc,dc⟩ ⟨dc,dc⟩ (by rw[mC];exact vu (Nat.mul_le_mul_left 2 (by assumption)) dc)),B L ?_⟩;refine eu (ι:=Option PV×Option PV×Option PV) (λi=>PV.int (ql i)) (λy=>L1 (.str (dj o)) (L1 (.ref z) (Lo y.1 (Lo y.2.1 (Lo y.2.2 []))))) (λr n=>∃h rs,o=h++rs/\r=List.range' h.length rs.length/\n z=some (.list (h.map λ(c:Nat)=>PV.int c))/\ay Y n) (λO O=>False)
  (λi r y n K j M O=>?_) (λO O O=>trivial) (λy n j=>?_) (λO O O f=>f.elim) _ (none,none,none) _ (lB [] o rfl rfl (AH.a9 ..) (ay.set D _))
 ·refine lA j λh rs e s t x=>?_
  cases rs with
  |nil=>injection s
  |cons c rs=>
   injection s with s N;refine B s ?_;subst N
   have J:c<256:=d c (B e (fX _ bP));refine Ka (abx h c rs) λu v=>?_;rw[←e] at u v;have ld:h.length<=1000:=abE (e▸g);have A:c/16<16:=Nat.div_lt_of_lt_mul J;have H:c%16<16:=Nat.mod_lt _ dc;have w:(16:Int)*((c/16:Nat):Int)+((c%16:Nat):Int)=(c:Int):=br Int.ofNat (Nat.div_add_mod c 16);generalize c/16=a at u A w;generalize c%16=b at v H w;have G:=λY=>aby (Y:=Y) u ld;have U:=λY=>abz (Y:=Y) v ld;generalize ql h.length=m at G U⊢;refine⟨bl,?_⟩;k_go;refine aE (G _) ⟨dc,Nf C A ⟨bl,sc ?_⟩⟩;dsimp only[S,W,Ws,Wt];refine Nd rfl (Nd rfl (h9 (aE (U _) ⟨dc,Nf C H ⟨bl,?_⟩⟩)));k_go;refine AZ (jJ (sk ?_));k_go;refine lb t (aS rfl rfl (qc (.inl dc) (h9 (lg t ⟨by rw[aW];exact bL ld,sn (B w (M (_,_,_) _ (lB (h++[c]) rs (by rw[e,e6];rfl) (by refine B bR ?_;rfl) (by rw[AH.a9,cF];rfl) (λa p e=>(AH.cJ _ _ λq=>by rw[q,D] at e;injection e).trans (x a p e)))))⟩))))
 ·refine lA j λh rs e s t x=>?_
  cases rs with
  |cons c rs=>injection s
  |nil=>rw[eB] at e;subst e;k_go;exact⟨rfl,aE (abB t d (bL g)) (k _ x)⟩
end
theorem Fy (a:∀c∈o,c<256):∀c∈dj o,c<256/\[48,49,50,51,52,53,54,55,56,57,97,98,99,100,101,102,65,66,67,68,69,70].contains c=true:=by
 induction o with
 |nil=>exact(by intros;contradiction)
 |cons x r g=>
  have h:=a x bP;obtain⟨O,O,b,e⟩:=uq (n:=x/16) (by lia);obtain⟨O,O,d,f⟩:=uq (n:=x%16) (Nat.mod_lt _ dc);intro c m;rcases d4.mp m with rfl|m
  ·exact⟨b,e⟩
  ·rcases d4.mp m with rfl|m
   ·exact⟨d,f⟩
   ·exact g (λc m=>a c (cn _ m)) c m
section
variable (C:Ck g)
include C
theorem qm (e:Y s=some (.bc c j))(a:c.fM .kP=true)(b:eE j .kP=some (.bytes AV))(l:∀c∈n,c<256)(f:n.length<=1000)(k:∀i,ay Y i->Q (.bytes (gp n)) i):g false .BX [.ref s,.str n] Q X Y:=by refine aZ Zs C ?_;w_up;k_go;refine⟨dc,xB C l (bL f) λm h=>⟨bl,?_⟩⟩;have e1:=h _ _ e;k_go;refine bx e1 a b ?_;x_go;refine gR rfl (bx e1 a b (iG (bl) (iG (?_:5+n.length<=aI) (k _ h))));unfold aI;exact mR bW dc
variable {o:Bs}(d:∀c∈o,c<256)(f:o.length<=1000)
include f
theorem abG (d:∀c∈o,c<256)(k:∀a,ay Y a->Q (.bytes (dj o++[10])) a):g false .sF [.str [105,100],.bytes o] Q X Y:=by refine aZ L9 C ?_;w_up;k_go;refine gR rfl ?_;k_go;refine⟨dc,Nb C d f λh b=>⟨dc,xB C (λc m=>(Fy d c m).1) (by rw[mC];unfold aI;exact sq bW dc) λi e=>iG ?_ (k _ (b.trans e))⟩⟩;rw[mC];show 2*o.length+1<=aI;unfold aI;exact Gq bW dc
theorem abH (d:∀c∈o,c<256)(k:∀a,ay Y a->Q (.bytes ([114,101,102,58,32]++o++[10])) a):g false .sF [.str [115,121,109],.str o] Q X Y:=by
 refine aZ L9 C ?_;w_up;k_go;refine dB rfl (sk ?_);k_go;refine iG (bl) ⟨dc,xB C d (bL f) λe b=>iG ?_ (iG ?_ (k _ b))⟩
 ·refine(?_:5+o.length<=aI);unfold aI;exact mR bW dc
 ·refine B bR ?_;show 5+o.length+1<=aI;unfold aI;exact oe bW dc
theorem Ng (d:∀c∈o,c<256)(p:o≠[])(k:∀l,ay Y l->Q (.bytes o) l):g false .sD [.bytes (dj o)] Q X Y:=by
 refine aZ Zn C ?_;w_up;k_go;have e:(dj o).length<=aI:=by rw[mC];unfold aI;exact sq (by assumption) dc
 refine⟨rfl,aE (len_bytes e) (mr dc ?_)⟩;x_go;have e1:((((dj o).length:Nat):Int)%2==1)=false:=by rw[mC];exact eA.mpr (by lia)
 have e2:(dj o==[])=false:=by
  cases o with
  |nil=>exact absurd rfl p
  |cons a r=>rfl
 have i:=Fy d;refine gW e1 (gW e2 ⟨rfl,rfl,by rw[aW];exact e,ib (λO=>some (PV.bool true)) trivial _ [] (λx m K v=>?_) ?_⟩)
 ·exact ai (bJ.mp m) λc t n=>az n (Ka (i c t) λq s=>⟨bl,gR rfl (aE ((aG ⟨fH c,f5.mpr q⟩).trans (br some s)) v)⟩)
 rw[gH,((map_some (λ(c:Nat)=>PV.int c) (λO=>some (PV.bool true)) (λO=>PV.bool true) (λO=>rfl) _).trans (cV ..).symm)];refine⟨by rw[aW,aW];exact e,λz u=>?_⟩;have h:=AH.a9 Y z (.list (((dj o).map λO=>true).map .bool));have j:=ay.set u (.list (((dj o).map λO=>true).map .bool));generalize Y.set z (.list (((dj o).map λO=>true).map .bool))=A at h j;refine aE (r:=.bool true) ?_ ?_
 ·refine(?_:dq _ _ (A z)=_)
  refine B h (?_:(vS (((dj o).map λO=>true).map .bool)).map _=_);rw[E1];exact((B List.all_map (br (λb=>some (PV.bool b)) (bI.mpr λO O=>rfl))):some (PV.bool (((dj o).map λO=>true).all id))=_)
 x_go;refine rJ (dB rfl (sk ?_));k_go;exact⟨dc,AN C (λc m=>(i c m).1) e λH w=>⟨dc,abF C d f λD y=>k _ ((j.trans w).trans y)⟩⟩
end
noncomputable def A4:Bs:=[47,109,97,105,110]
def Nt:List Bs:=(jL++ue++nA++A4)::(jL++ue++nO++A4)::(List.range 9).map nX
noncomputable def Na:List Bs:=eI++Nt
inductive Vl|id (k:Nat)|cq (t:Bs)
noncomputable def cC (k:Nat):Bs:=[0,7,1,k]
def Vl.fF:Vl->Bs
 |id k=>dj (cC k)++[10]
 |cq t=>[114,101,102,58,32]++t++[10]
noncomputable def Vl.pv:Vl->PV
 |id k=>.av [.str [105,100],.bytes (cC k)]
 |cq t=>.av [.str [115,121,109],.str t]
noncomputable def Fz:Bs:=[32,9,13,10]
noncomputable def pre:Bs:=[114,101,102,58]
theorem Nh:Na.all (λn=>rI n&&(gA n true&&kv n))=true:=by kernel_rfl
theorem abI:Nt.all (λt=>List.isPrefixOf pre (Vl.cq t).fF&&(qJ Fz (bT (Vl.cq t).fF (some 4) none)==t))=true:=cA
theorem abJ:(List.range 16).all (λk=>!List.isPrefixOf pre (Vl.id k).fF&&((bT (Vl.id k).fF none (some 8)==dj (cC k))&&(qJ Fz (bT (Vl.id k).fF (some 8) none)==[])))=true:=cA
def bZ (d:Addr):bS:=.bc .si [(.eC,.ref d),(.kP,.bytes AV),(.size,.int 4),(.yG,.none)]
inductive Vl.ok:Vl->Prop
 |id {k:Nat} (h:k<16):(Vl.id k).ok
 |cq {t:Bs} (h:t∈Nt):(Vl.cq t).ok
theorem abK (k:Q (.bool (pre.isPrefixOf l)) Y):hS .startswith (.bytes l) [Gl.vy.pv] Q Y:=k
theorem Ni (h:l.length<=aI)(k:Q (.bytes (qJ Fz l)) Y):hS .mV (.bytes l) [Gl.yJ.pv] Q Y:=aE (if_pos (ry h)) k
theorem FA (h:fE l=true)(k:Q (.bool true) Y):hS .startswith (.str l) [Gl.lP.pv] Q Y:=by exact((B h k):Q (.bool (fE l)) Y)
theorem nS {lo a:PV}(c:kT l lo a=some r)(b:l.length<=aI)(k:Q (.bytes r) Y):sX (.bytes l) lo a .none Q Y:=by refine(?_:bQ (kT l lo a) _);exact B c ⟨b,k⟩
theorem FD {P a:Prop}(k:a):if true=false then P else a:=k
theorem St.rH {F:bH}(x:St d F τ Y){p o:Bs}(h:F p=some o):p∈dO:=(by obtain⟨O,f,O⟩:=x;exact f.rH h)
section
variable (C:Ck a){F:bH}
include C
theorem FE {n:Bs}(x:St d F ((s,bZ d)::τ) Y)(I:∀c∈n,c<256)(U:n.length<=1000){v:Option Vl}(r:F (gp n)=v.map Vl.fF)(ok:∀u∈v,u.ok)(k:∀y,ay Y y->Q ((v.map Vl.pv).getD .none) y):a false .B0 [.ref s,.str n] Q X Y:=by
 refine aZ Zv C ?_;w_up;k_go;refine cX (x.o 0 rfl) rfl rfl dc (qm C (x.o 0 rfl) rfl rfl I U λcN g=>⟨bl,?_⟩);have x:=x.ext g;refine eJ x.dk λO O j=>?_;k_go;refine bx (x.o 0 rfl) rfl rfl (cX j rfl rfl dc (AY C x λb G=>?_));x_go;cases v with
 |none=>
  have i:F (gp n)=none:=r;cases b with
  |true=>refine FD (oQ ?_);k_go;exact k _ g
  |false=>refine gW rfl (bx (x.o 0 rfl) rfl rfl (cX j rfl rfl dc (xI C x (B i ?_))));x_go;refine rJ (gR rfl ?_);k_go;exact k _ g
 |some u=>
  have i:F (gp n)=some u.fF:=r;have z:=G (x.rH i);refine B z ?_;refine gW rfl (bx (x.o 0 rfl) rfl rfl (cX j rfl rfl dc (xI C x (B i ?_))));x_go;refine rJ (dB rfl (sk ?_));k_go;refine bx (x.o 0 rfl) rfl rfl (cX j rfl rfl (by decide) (MQ C x i ⟨bl,?_⟩));k_go;refine cZ rfl rfl rfl (abK ?_);x_go;cases ok u rfl with
  |id h=>
   rename_i q;refine Ka (V (bI.mp abJ q (ik.mpr h))) λA f=>dB ((Bool.not_eq_true' _).mp A) (sk ?_);k_go;refine bx (x.o 0 rfl) rfl rfl (qc (.inl (by decide)) ⟨bl,?_⟩);k_go;refine⟨rfl,aE (len_bytes (bl)) ?_⟩;x_go;refine gR (f3 (show(2*4:Int)<=((9:Nat):Int) by decide)) (nS (br some (bG.mp (V f).1)) (bl) ?_);have J:∀c∈cC q,c<256:=λc m=>by
    rcases d4.mp m with rfl|m
    ·decide
    rcases d4.mp m with rfl|m
    ·decide
    rcases d4.mp m with rfl|m
    ·decide
    exact B (eR.mp m) (Nat.lt_trans h dc)
   refine⟨dc,Ng C (bl) J (λh=>by injection h) λN l=>⟨bl,?_⟩⟩;k_go;refine gW rfl (nS (r:=bT (Vl.id q).fF (some (2*4)) none) rfl (bl) ?_);x_go;refine cZ rfl rfl rfl (Ni (aw (uj _ _ _) (bl)) (B (bG.mp (V f).2) ?_));x_go;refine rJ (dB rfl (sk ?_));k_go;exact⟨bl,k _ (g.trans l)⟩
  |cq h=>
   rename_i t;have f:=bI.mp abI t h;refine gR (V f).1 (Ka (V (bI.mp Nh t (fX _ h))) λH e=>Ka (V e) λO e=>?_);have p:=nR H;obtain⟨O,L,aa,O,O⟩:=id p;have lo:(Vl.cq t).fF.length<=aI:=by show(([114,101,102,58,32]++t++[10]:Bs)).length<=aI;refine B bR (B bR ?_);show 5+t.length+1<=aI;unfold aI;exact oe (by assumption) dc
   k_go;refine⟨rfl,aE (r:=.int 4) rfl (aE rfl ⟨lo,?_⟩)⟩;x_go;refine cZ rfl rfl rfl (Ni (aw (uj _ _ _) lo) (B (bG.mp (V f).2) ⟨dc,AN C aa (bL L) λN l=>⟨bl,?_⟩⟩));k_go;refine⟨dc,xN C p λd8 w=>?_⟩;unfold kv at e;cases D:oV t with
   |true=>x_go;refine FD (dB rfl (sk ?_));k_go;exact⟨bl,k _ ((g.trans l).trans w)⟩
   |false=>rw[D] at e;x_go;refine gW rfl ⟨dc,A3 C p λj8 M=>(B ((V e).1) ?_)⟩;x_go;refine oQ (cZ rfl rfl rfl (FA (V e).2 ?_));x_go;refine oQ (FD (dB rfl (sk ?_)));k_go;exact⟨bl,k _ (((g.trans l).trans w).trans M)⟩
end
def iX (n:Bs) (k:Nat):bS:=.bc .vk [(.name,.str n),(.cC,.bytes (cC k)),(.lM,.none)]
def iK (n:Bs) (k:Nat):Bs:=dj (cC k)++[32]++n++[10]
theorem A5 (h:k<16):∀c∈cC k,c<256:=λc m=>by
 rcases d4.mp m with rfl|m
 ·decide
 rcases d4.mp m with rfl|m
 ·decide
 rcases d4.mp m with rfl|m
 ·decide
 exact B (eR.mp m) (Nat.lt_trans h dc)
theorem AH.fh (Y:AH)(z:Addr)(a b:bS):(Y.set z a).set z b=Y.set z b:=funext λx=>by unfold AH.set;split<;>rfl
theorem ur {Y:AH}{P:AH->Prop}(e:Y z=some (.bc c a))(h:(c.fM b&&Nat.ble a.length 50)=true)(k:P (Y.set z (.bc c (jc a b v)))):
  hO (λc a=>(c.fM b=true/\a.length<=50)/\P (Y.set z (.bc c (jc a b v)))) False (Y z):=
 rq e ⟨⟨(V h).1,Nat.le_of_ble_eq_true (V h).2⟩,k⟩
section
variable (C:Ck a){F:bH}
include C
theorem Nj (e:Y z=some (.bc .vk [])){b:List PV}(c:b=[]∨b=[.none])(d:Q .none (Y.set z (iX n k))):a q .BV (.ref z::.str n::.bytes (cC k)::b) Q X Y:=by
 have key:Ss a a6 0 q EJ (L1 (.ref z) (L1 (.str n) (L1 (.bytes (cC k)) (L1 .none [])))) (cj Q) (h8 X) Y:=by unfold EJ;w_up;k_go;refine ur e rfl ?_;k_go;refine ur (AH.a9 ..) rfl ?_;k_go;refine ur (AH.a9 ..) rfl ?_;rw[AH.fh,AH.fh];exact sn d
 rcases c with rfl|rfl
 ·exact aZ (j:=0) Ma C key
 ·exact aZ (j:=1) Ma C key
theorem abL (e:Y z=some (iX n k))(b:k<16)(j:∀c∈n,c<256)(i:n.length<=1000)(l:∀h,ay Y h->Q (.bytes (iK n k)) h):a false .BW [.ref z] Q X Y:=by
 refine aZ Zo C ?_;w_up;k_go;refine bx e rfl rfl ⟨dc,Nb C (A5 b) (bl) λp d=>⟨dc,xB C (λc m=>(Fy (A5 b) c m).1) (bl) λq f=>iG (bl) ?_⟩⟩;have e:=f _ _ (d _ _ e);refine bx e rfl rfl ⟨dc,xB C j (bL i) λr g=>iG ?_ (iG ?_ ⟨bl,?_⟩)⟩
 ·refine(?_:9+n.length<=aI);unfold aI;exact mR bW dc
 ·rw[bR];show 9+n.length+1<=aI;unfold aI;exact oe bW dc
 k_go;refine bx (g _ _ e) rfl rfl ?_;x_go;refine dB rfl (sk ?_);k_go;exact l _ ((d.trans f).trans g)
end
section
variable (g:c->PV)
noncomputable def eY (L:List (Bs×c)):List (PV×PV):=L.map λy=>(.str y.1,g y.2)
theorem abM (L:List (Bs×c))(k:Bs):dr (.str k) (eY g L)=true:=by unfold dr eY;rw[List.all_map,bI];intro y O;rfl
theorem ig (L:List (Bs×c))(k:Bs):((PV.str k).jb&&dr (.str k) (eY g L))=true:=abM g L k
theorem Nk (a b:Bs):PV.beq (.str a) (.str b)=(b==a):=by unfold PV.beq;rw[Bool.beq_comm]
theorem oW (L:List (Bs×c))(k:Bs):el (eY g L) (.str k)=(L.lookup k).map g:=by
 unfold el eY
 induction L with
 |nil=>rfl
 |cons y r a=>
  rw[c3,mL,d0,Nk];cases k==y.1
  ·exact a
  ·rfl
theorem FF (L:List (Bs×c))(k:Bs):fw (eY g L) (.str k)=(L.lookup k).isSome:=by
 unfold fw eY
 induction L with
 |nil=>rfl
 |cons y r a=>rw[c3,kM,d0,a,Nk];cases k==y.1<;>rfl
theorem rK (L:List (Bs×c))(k:Bs)(v:c):fx (eY g L) (.str k) (g v)=eY g (bg L k v):=by
 unfold fx bg;rw[FF];split
 ·unfold eY
  refine B cV (B cV (gF λy O=>((?_:(if(y.1==k)=true then _ else _)=((PV.str (if(y.1==k)=true then(y.1,v) else y).1),g (if(y.1==k)=true then(y.1,v) else y).2)):(if PV.beq (.str y.1) (.str k)=true then _ else _)=_)));split<;>rfl
 ·unfold eY;refine B cF ?_;rfl
theorem A6 (L:List (Bs×c)):(eY g L).map (·.1)=(L.map (·.1)).map PV.str:=by unfold eY;refine B cV (B cV ?_);rfl
end
theorem St.om {F:bH}(x:St d F τ Y){o:bS}(m:(a,o)∈τ):Y a=some o:=by obtain⟨O,O,O,O,b⟩:=x;exact(b _ m).1
theorem xO (l:List Bs):ot (l.map .str)=some ((dS l).map .str):=by unfold ot;rw[t9]
abbrev gY:=Bs×Nat×Addr
def agc (P:List gY):iV:=P.map λy=>(y.2.2,iX y.1 y.2.1)
def fG (P:List gY):List (PV×PV):=eY (λy:Nat×Addr=>.ref y.2) P
noncomputable def uu:Bs:=[35,32,112,97,99,107,45,114,101,102,115,32,119,105,116,104,58,32,112,101,101,108,101,100,32,102,117,108,108,121,45,112,101,101,108,101,100,32,115,111,114,116,101,100,32,10]
noncomputable def nT (P:List gY)(n:Bs):Nat:=((P.lookup n).map (·.1)).getD 0
def sorted (P:List gY):List (Bs×Nat):=(dS (P.map (·.1))).map λn=>(n,nT P n)
def jm (L:List (Bs×Nat)):Bs:=uu++L.flatMap λy=>iK y.1 y.2
inductive Nl (P:List gY):Prop
 |mk (b:(P.map (·.1)).Nodup) (a:P.length<=40) (ok:∀y∈P,y.2.1<16/\(∀c∈y.1,c<256)/\y.1.length<=100)
def fT (n:Bs) (k:Nat):Bs:=dj (cC k)++[32]++n
theorem abN:(Un.all λn=>(List.range 16).all λk=>(sR 32 (fT n k)==8)&&((bT (fT n k) none (some 8)==dj (cC k))&&((bT (fT n k) (some (8+1)) none==n)&&((bT (fT n k) none (some 1)==[48])&&!(fT n k).contains 10))))=true:=by kernel_rfl
inductive rL (n:Bs)(k:Nat):Prop
 |mk (e:nQ n) (ok:gA n false=true) (g:fE n=true) (f:k<16) (aa:sR 32 (fT n k)=8) (a:bT (fT n k) none (some 8)=dj (cC k)) (b:bT (fT n k) (some (8+1)) none=n) (c:bT (fT n k) none (some 1)=[48]) (d:(fT n k).contains 10=false)
theorem abO (k:Q (.int (sR 32 l)) Y):hS .find (.bytes l) [.bytes [32]] Q Y:=k
section
variable (C:Ck a)
include C
theorem abP (h:rL n k)(j:∀b z,ay Y b->Y z=none->b z=some (iX n k)->Q (.ref z) b):a false .yS [.bytes (fT n k),.int 4] Q X Y:=by
 obtain⟨c,ok,m,i,e0,e1,e2,O,O⟩:=h;obtain⟨O,l,g,O,O⟩:=id c;have e:(fT n k).length<=aI:=by unfold fT;refine B bR ?_;show 9+n.length<=aI;unfold aI;exact mR (by assumption) dc
 refine aZ Zq C ?_;w_up;k_go;refine cZ rfl rfl rfl (abO (B e0 ⟨bl,?_⟩));k_go;refine gR rfl (nS (br some e1) e ⟨dc,Ng C (bl) (A5 i) (λh=>by injection h) λs p=>⟨bl,?_⟩⟩);k_go;refine gW rfl (gR rfl ⟨rfl,aE (len_bytes (bl)) ?_⟩);x_go;refine dB rfl (rJ (dB rfl (sk ?_)));k_go;refine h9 (nS (br some e2) e ⟨dc,AN C g (bL l) λt q=>⟨bl,?_⟩⟩);k_go;refine⟨dc,A3 C c λu r=>(B ok ?_)⟩;x_go;refine gW rfl (cZ rfl rfl rfl (FA m ?_));x_go;refine rJ (dB rfl (sk ?_));k_go;refine⟨rfl,λz d=>⟨dc,?_⟩⟩;have f:=(p.trans q).trans r;exact Nj C (AH.a9 ..) (.inl rfl) (by rw[AH.fh];exact j _ z (f.trans (ay.set d _)) (f.none d) (AH.a9 ..))
end
structure Nw (a:AH)(b:iV)(Y:AH):Prop where
 ext:ay a Y
 nd:(b.map (·.1)).Nodup
 ob:∀y∈b,Y y.1=some y.2/\a y.1=none
section
theorem Nw.refl (Y:AH):Nw Y [] Y:=⟨ay.refl Y,List.nodup_nil,λO m=>absurd m List.not_mem_nil⟩
theorem Nw.o (x:Nw c b Y)(i:Nat){o:bS}(h:b[i]? =some (a,o)):Y a=some o:=(x.ob _ (List.mem_of_getElem? h)).1
theorem Nw.on (x:Nw b c Y)(e:ay Y a):Nw b c a:=⟨x.ext.trans e,x.nd,λy m=>⟨e _ _ (x.ob y m).1,(x.ob y m).2⟩⟩
theorem Nw.Nm (x:Nw c d Y)(e:ay Y a)(n:Y z=none){o:bS}(h:a z=some o):Nw c ((z,o)::d) a:=by
 refine⟨x.ext.trans e,g9.mpr ⟨λm=>?_,x.nd⟩,λy m=>?_⟩
 ·exact ai (bJ.mp m) λy b q=>nn (q▸n) (x.ob y b).1
 ·rcases d4.mp m with rfl|m
  ·exact⟨h,x.ext.none n⟩
  ·exact⟨e _ _ (x.ob y m).1,(x.ob y m).2⟩
theorem Nw.new (x:Nw a b Y)(n:Y z=none)(o:bS):Nw a ((z,o)::b) (Y.set z o):=x.Nm (ay.set n o) n (AH.a9 ..)
theorem Nw.dt {o:bS}(x:Nw d ((z,o)::f) Y)(c:bS):Nw d ((z,c)::f) (Y.set z c):=by
 have b:=(x.ob _ bP).2;refine⟨λa p e=>(AH.cJ _ _ λq=>nn b (q▸e)).trans (x.ext a p e),x.nd,λy m=>?_⟩;rcases d4.mp m with rfl|m
 ·exact⟨AH.a9 _ _ _,b⟩
 ·have h:=x.ob y (cn _ m)
  exact⟨(AH.cJ _ _ λe=>(g9.mp x.nd).1 (bJ.mpr (aQ y m e))).trans h.1,h.2⟩
theorem Nw.aX (x:Nw b a Y)(i:Nat)(h:a[i]? =some y):Nw b (y::a.eraseIdx i) Y:=
 ⟨x.ext,((AW h).map _).nodup_iff.mpr x.nd,λy m=>x.ob y ((AW h).mem_iff.mp m)⟩
theorem Nw.bw (x:Nw c d Y){o:bS}(k:∀z a,Nw c ((z,o)::d) a->ay Y a->Q (.ref z) a):bw Y o Q:=λz b=>k z _ (x.new b o) (ay.set b o)
theorem Nw.dA {o o':bS}{P:AH->Prop}(x:Nw b ((z,o)::c) Y)(k:∀a,Nw b ((z,o')::c) a->P a):P (Y.set z o'):=k _ (x.dt o')
theorem Nw.ne (x:Nw m c Y){o l:bS}{i j:Nat}(g:c[i]? =some (a,o))(k:c[j]? =some (b,l))(h:i≠j):a≠b:=by
 intro e;have d:(c.map (·.1))[i]? =some a:=by refine B (eZ) (B g ?_);rfl
 have f:(c.map (·.1))[j]? =some a:=by refine B (eZ) (B k (B e ?_));rfl
 exact h ((yA (kH.mp d).1 x.nd).mp (d.trans f.symm))
theorem Nw.FG (x:Nw f g Y)(l:List Nat)(h:autoParam (l.filterMap (g[·]?)=k) aR)(nd:autoParam (l.Nodup) aD):Nw f k Y:=by
 subst h;refine⟨x.ext,?_,λy m=>?_⟩
 ·refine B List.map_filterMap (List.Pairwise.filterMap _ (λi j n a c b d q=>n ?_) nd)
  rw[←eZ] at c d;exact(yA (kH.mp c).1 x.nd).mp (c.trans (q▸d.symm))
 ·exact ai (List.mem_filterMap.mp m) λi O e=>x.ob y (uJ e)
theorem Nw.drop (x:Nw a (y::c) Y):Nw a c Y:=⟨x.ext,(List.nodup_cons.mp x.nd).2,λy m=>x.ob y (List.mem_cons_of_mem _ m)⟩
end
theorem Nn (f:e->PV)(R:ι->aP)(J:List e->ι->AH->Prop)
  (a:∀(i:Nat) x r y Y (K:Fl->aP->AH->Prop),J (x::r) y Y->(∀y Y,J r y Y->K .next (R y) Y)->H (.av [.int i,f x]) (R y) Y K)
  (b:∀r y Y,J r y Y->g Y) (k:∀y Y,J [] y Y->Q .next (R y) Y):∀(r:List e) (i:Nat) (y:ι) (Y:AH),J r y Y->jA H g Q (vU i (r.map f)) (R y) Y
 |[],_,y,Y,j=>k y Y j
 |x::r,i,y,Y,j=>a i x r y Y _ j λd h c=>⟨b r d h c,Nn f R J a b k r (i+1) d h c⟩
inductive A7:List (Bs×Nat)->Prop
 |mk {L:List (Bs×Nat)} (a:L.length<=40) (ok:∀y∈L,rL y.1 y.2) (s:(L.map (·.1)).Pairwise (·<·)):A7 L
theorem abQ (n:Nat):(max 0 (min (-1+((n:Int)+1)) ((n:Int)+1))).toNat=n:=by refine B (show(-1:Int)+((n:Int)+1)=n by rw[Int.add_comm];exact Int.add_neg_cancel_right _ _) (B (Int.min_eq_left (lK (Int.lt_succ _))) (B (Int.max_eq_right (fH n)) ?_));rfl
theorem Np (l:List b)(a:b):clipAt (l++[a]).length (-1)=l.length:=by exact B bR (abQ _)
theorem abR (l:List b)(a:b):bT (l++[a]) (some (-1)) none=[a]:=by have e:=Np l a;refine((B e (B List.drop_left (?_:List.take ((l++[a]).length-clipAt (l++[a]).length (-1)) [a]=_))):List.take _ (List.drop (clipAt (l++[a]).length (-1)) _)=_);rw[e,bR,Nat.add_sub_cancel_left];rfl
theorem abS (l:List b)(a:b):bT (l++[a]) none (some (-1))=l:=by have e:=Np l a;refine(?_:List.take (clipAt (l++[a]).length (-1)-0) (l++[a])=_);rw[e,Nat.sub_zero,List.take_left]
theorem abT (n:x≠c)(e:c5 c r=y::s):c5 c (x::r)=(x::y)::s:=by refine(?_:(if x=c then _ else match c5 c r with|[]=>[[x]]|y::s=>(x::y)::s)=_);exact B (aH n) (B e rfl)
theorem FH:∀{a b:Bs},a.contains c=false->c5 c (a++c::b)=a::c5 c b
 |[],b,_=>aG rfl
 |x::a,b,h=>by rw[List.contains_cons] at h;exact Ka (Bool.or_eq_false_iff.mp h) λd e=>abT (λq=>by rw[q,ej] at d;injection d) (FH e)
def rM:Bs:=uu.dropLast
theorem abU:∀{L:List (Bs×Nat)},(∀y∈L,rL y.1 y.2)->c5 10 (jm L)=rM::L.map (λy=>fT y.1 y.2)++[[]]:=λ{L} ok=>by
 have h:∀L:List (Bs×Nat),(∀y∈L,rL y.1 y.2)->c5 10 (L.flatMap λy=>iK y.1 y.2)=L.map (λy=>fT y.1 y.2)++[[]]:=by
  intro L ok
  induction L with
  |nil=>rfl
  |cons y r a=>
   have e:(y::r).flatMap (λy=>iK y.1 y.2)=fT y.1 y.2++10::r.flatMap λy=>iK y.1 y.2:=by refine B r9 ?_;unfold iK fT;simp only[List.append_assoc,List.singleton_append]
   obtain⟨O,O,O,O,O,O,O,O,d⟩:=ok y bP;refine B e (B (FH d) (B (a λz m=>ok z (cn _ m)) ?_));rfl
 refine B (show jm L=rM++10::L.flatMap λy=>iK y.1 y.2 from rfl) (B (FH (by rfl)) (B (h L ok) ?_));rfl
theorem abV (L:List (Bs×Nat)):∃w,jm L=w++[10]:=by
 rcases ym L with rfl|⟨r,y,rfl⟩
 ·exact⟨rM,rfl⟩
 ·refine⟨uu++((r.flatMap λy=>iK y.1 y.2)++(dj (cC y.2)++[32]++y.1)),?_⟩
  unfold jm;rw[yn,List.flatMap_append,e6,e6];refine(?_:_++(_++(iK y.1 y.2++[]))=_);rw[eB];rfl
noncomputable def xP (P:List gY):List PV:=P.map λy=>.ref y.2.2
noncomputable def kD (P:List gY):List (Bs×Nat):=P.map λy=>(y.1,y.2.1)
noncomputable def xQ (P:List gY):PV:=match P.getLast? with|none=>.none|some y=>.ref y.2.2
inductive mD (P:List gY)(Y:AH):Prop
 |mk (o:∀y∈P,Y y.2.2=some (iX y.1 y.2.1))
inductive RdJ (d:AH)(L:List (Bs×Nat))(z c:Addr)(b:List PV)(r:List (Bs×Nat))(v:PV)(Y:AH):Prop
 |mk (P:List gY) (a:Nat) (e:kD P++r=L) (l:v=xQ P) (x:Nw d [(z,.dict a (fG P)),(c,.list b)] Y) (i:mD P Y)
theorem nU (h:∀K:Fl->aP->AH->Prop,(∀d c,g c->jA H g Q r d c->K .next d c)->H x e Y K):jA H g Q (x::r) e Y:=h _ λO O a b=>⟨a,b⟩
theorem abX (k:Q (.bool (p.isPrefixOf l)) Y):hS .startswith (.bytes l) [.bytes p] Q Y:=k
theorem xR:∀{L:List (Bs×a)},(∀y∈L,y.1≠k)->L.lookup k=none
 |[],_=>rfl
 |y::r,h=>by exact B d0 (B (eA.mpr λq=>h y bP q.symm) (xR λy m=>h y (cn _ m)))
theorem FI:∀{l:List c},(∀a∈l,g (f a)=some (k a))->(l.map f).filterMap g=l.map k
 |[],_=>rfl
 |a::l,h=>by refine B c3 (B mK (B (h a bP) (B (FI λb m=>h b (cn _ m)) ?_)));rfl
theorem abY (h:rL n k):(fT n k).length<=aI:=by obtain⟨⟨O,a,O,O,O⟩,O,O,O,O,O,O,O,O⟩:=h;unfold fT;refine B bR ?_;show 9+n.length<=aI;unfold aI;exact mR bW dc
theorem Nq (ok:∀y∈L,rL y.1 y.2)(d:L.length<=40):(jm L).length<=1000000:=by
 unfold jm;refine B List.flatMap_def (B bR (B List.length_flatten ?_));have:=A0 (k:=1010) (L.map λy=>iK y.1 y.2) λb m=>by refine ai (bJ.mp m) λy c a=>az a ?_;obtain⟨⟨O,e,O,O,O⟩,O,O,O,O,O,O,O,O⟩:=ok y c;unfold iK;exact B bR (B bR (B bR ((oe bW dc):8+1+y.1.length+1<=1010)))
 rw[aW] at this;exact((Gw bW bW dc):46+_<=1000000)
theorem Nr {P:List gY}{y0:Bs×Nat}{a:List (Bs×Nat)}(so:((kD P++y0::a).map (·.1)).Pairwise (·<·)){y:gY}(m:y∈P):y.1<y0.1:=by rw[cF] at so;exact(List.pairwise_append.mp so).2.2 y.1 (bJ.mpr (aQ (y.1,y.2.1) (bJ.mpr (aQ y m rfl)) rfl)) y0.1 bP
theorem abZ {P:List gY}{y0:Bs×Nat}{c:List (Bs×Nat)}{Y:AH}{v:PV}(l:v=xQ P)(so:((kD P++y0::c).map (·.1)).Pairwise (·<·))(b:mD P Y):v=.none∨∃n k a,v=.ref a/\Y a=some (iX n k)/\n<y0.1:=by
 refine B l ?_;unfold xQ;cases q:P.getLast? with
 |none=>exact .inl rfl
 |some y=>obtain⟨h⟩:=b;have m:=List.mem_of_getLast? q;exact .inr (qq y.1 y.2.1 y.2.2 rfl (h y m) (Nr so m))
theorem ab0 {P:List gY}{y0:Bs×Nat}{b:List (Bs×Nat)}{a:Addr}(so:((kD P++y0::b).map (·.1)).Pairwise (·<·)):fx (fG P) (.str y0.1) (.ref a)=fG (P++[(y0.1,y0.2,a)]):=by unfold fG;rw[show PV.ref a=(λy:Nat×Addr=>PV.ref y.2) (y0.2,a) from rfl,rK];unfold bg;refine B (xR λy m q=>absurd (Nr so m) (by rw[q];exact List.lt_irrefl _)) ?_;rfl
theorem mD.E6 {P:List gY}{Y:AH}{z c:Addr}{o b:bS}{n:Bs}{k:Nat}(g:mD P Y)(f:Y c=some (iX n k))(d:Y z=some b)(i:∀n k,b≠iX n k):mD (P++[(n,k,c)]) (Y.set z o):=by
 obtain⟨h⟩:=g;have st:∀{a n k},Y a=some (iX n k)->(Y.set z o) a=some (iX n k):=λ{a n k} e=>(AH.cJ _ _ λ(q:a=z)=>i n k (ss d (az q e))).trans e;refine⟨λy m=>?_⟩;rcases hG.mp m with m|m
 ·exact st (h y m)
 ·exact B (eR.mp m) (st f)
section
variable {d:jX}(C:Ck d){Q:PV->AH->Prop}{X:XP}{Y:AH}{L:List (Bs×Nat)}
include C
theorem ab1 (l:A7 L)(D:∀p z P,ay Y p->Y z=none->p z=some (.list (xP P))->kD P=L->mD P p->Q (.ref z) p):d false .yT [.bytes (jm L),.int 4] Q X Y:=by
 obtain⟨c,ok,so⟩:=l;have Nu:=abU ok;have U:=aw (Nq ok c) (by decide:1000000<=aI);refine Ke (abV L) λw ew=>?_;have N:bT (jm L) (some (-1)) none=[10]:=by exact B ew (abR w 10)
 have A8:(jm L==[])=false:=rfl;generalize jm L=o at Nu U N A8;refine aZ (j:=1) Zr C ?_;w_up;k_go;refine gR (br Bool.not A8) (nS (br some N) U ?_);x_go;refine dB rfl (jJ (sk ?_));k_go;refine λH=>(Nw.refl Y).bw λz s x O=>yh (bl) rfl rfl (bl) (bl) (bl) (dX λK kf=>?_);z_go;refine jt rfl rfl rfl U dc (B Nu (B cF (x.bw λz1 s x O=>Ft (x.o 0 rfl) (by rw[bR,aW,e8,aW];exact bL (by show _+1<=_;lia)) (br some (abS _ _)) (x.bw λz0 s x O=>?_))));have ll:(((rM::L.map λy=>fT y.1 y.2).map PV.bytes)).length<=1000000:=by rw[aW,e8,aW];exact aw (fZ c) dc
 refine oP (x.o 0 rfl) ⟨ll,kf _ _ _ ?_⟩;clear kf;have x:=(x.aX 2 rfl);generalize I:(rM::L.map λy=>fT y.1 y.2).map PV.bytes=xs at x;refine az I (nU λK G=>?_);z_go;refine gm rfl rfl (bl) (bl) (lq (λK k=>by z_go;exact nS (r:=[35]) rfl (bl) k) (gh (λK k=>k) (sk ?_)));k_in;refine cZ rfl rfl rfl (abX (p:=[35,32,112,97,99,107,45,114,101,102,115,32,119,105,116,104,58]) ?_);z_go;refine⟨rfl,aE (r:=.int 17) rfl (nS (r:=rM.drop 17) rfl (bl) (jt rfl rfl rfl (bl) dc (x.bw λz2 s x O=>aE (aao (x.o 0 rfl) (EZ _)) ?_)))⟩;have x:Nw Y [(z,.dict H (fG [])),(z0,.list xs)] s:=x.FG [1,2];refine⟨dc,sk (sn (G _ _ (by exact B I (x.o 1 rfl)) ?_))⟩;clear G;refine Nn (ι:=PV×Option PV×Option PV×Option PV) .bytes (λy=>L1 (.bytes o) (L1 (.int 4) (L1 (.ref z) (L1 (.bool true) (L1 y.1 (Lo y.2.1 (Lo y.2.2.1 (L0 (Lo y.2.2.2 (L0 [])))))))))) (λr y p=>∃f,r=f.map (λy=>fT y.1 y.2)/\RdJ Y L z z0 xs f y.1 p)
  (λi r0 r y p K j G=>?_) (λO O O w1=>by refine ai w1 λO O ab2=>?_;obtain⟨O,O,O,O,x,O⟩:=ab2;exact B I (x.o 1 rfl)) (λy p j=>?_) _ 1 (.none,some (.int 0),some (.bytes rM),none) s (aQ L rfl ⟨[],H,rfl,rfl,x,⟨(by intros;contradiction)⟩⟩)
 ·refine ai j λf t ab3=>?_;obtain⟨P,H,e,l,x,g⟩:=ab3
  cases f with
  |nil=>injection t
  |cons y0 f=>
  injection t with t x9;refine B t ?_;subst x9
  have M:=ok y0 (by exact az e (fX _ bP));obtain⟨O,O,O,O,O,O,O,ec,O⟩:=id M;have Nv:=abY M;z_go;refine gm rfl rfl (bl) (bl) (gh (λK k=>by z_go;exact nS (br some ec) Nv k) (gh (λK k=>by z_go;exact nS (br some ec) Nv k) ?_));k_in;refine⟨dc,abP C M λs zf e1 hz u=>⟨bl,?_⟩⟩;have x:=x.Nm e1 hz u;have g:mD P s:=let⟨h⟩:=g;⟨λy m=>e1 _ _ (h y m)⟩;have so:((kD P++y0::f).map (·.1)).Pairwise (·<·):=by exact B e so
  refine gh (λK k=>?_) (sk ?_)
  ·x_go
   rcases abZ l so g with e0|⟨n,k0,a,e0,e2,q7⟩
   ·exact B e0 (jJ k)
   refine B e0 (oQ ⟨rfl,bx u rfl rfl (aE (r:=.int 4) rfl ⟨rfl,bx e2 rfl rfl (aE (r:=.int 4) rfl (aE rfl (gW rfl (oQ (bx u rfl rfl (bx e2 rfl rfl ?_))))))⟩)⟩);x_go;exact B (iM (List.not_le.mpr q7)) (jJ (gW rfl (jJ k)))
  ·k_go
   refine bx u rfl rfl (jh (x.o 1 rfl) (aS (ig _ _ _) ?_ (λwD=>?_)))
   ·unfold fG eY;rw[aW];exact bL (by rw[←e,bR] at c;unfold kD at c;rw[aW] at c;exact vo (by assumption) dc)
   k_go;refine B (ab0 so) ?_;have x1:=x;have x:=(x.FG [1,2]).dt (.dict wD (fG (P++[(y0.1,y0.2,zf)])));refine⟨bl,sk (sn (G (_,_,_,_) _ (aQ f rfl ⟨P++[(y0.1,y0.2,zf)],wD,?_,?_,x,?_⟩)))⟩
   ·refine az e ?_;unfold kD;rw[cF,e6];rfl
   ·show _=xQ _;unfold xQ;exact B (List.getLast?_concat) rfl
   ·exact g.E6 u (x1.o 1 rfl) (λO O q=>by injection q)
 ·refine ai j λf t ab4=>?_;obtain⟨P,H,e,l,x,g⟩:=ab4
  cases f with
  |cons O O=>injection t
  |nil=>
  rw[eB] at e;have Nx:(P.map (·.1)).Pairwise (·<·):=by rw[←e,kD,cV] at so;exact so
  have hp:P.length<=40:=by rw[←e] at c;unfold kD at c;rw[aW] at c;exact c
  have hg:∀y∈P,el (fG P) (.str y.1)=some (.ref y.2.2):=λy m=>by unfold fG;rw[oW,jK (List.Pairwise.imp (S:=λa b=>a≠b) (λ{a b} h (q:a=b)=>List.lt_irrefl a (by rw[←q] at h;exact h)) Nx) m];rfl
  have ef:((P.map (·.1)).map PV.str).filterMap (λx=>x.d6 (λn=>el (fG P) (.str n)) none)=xP P:=by exact B cV (FI hg)
  k_in;refine aS rfl rfl (rx (x.o 0 rfl) (by unfold fG;rw[A6,xO,((HX (.refl _) (Nx.imp λh=>List.le_of_lt h)).symm)]) (by unfold fG eY;rw[aW];exact gG (by assumption) dc) (x.bw λz2 bX A e2=>cQ (A.o 0 rfl) ⟨by rw[aW,aW];exact bL (by exact aw (by assumption) dc),ib (λx=>x.d6 (λn=>el (fG P) (.str n)) none) (A.o 0 rfl) _ [] (λv m K D=>?_) ?_⟩))
  ·refine ai (bJ.mp m) λn hn ab5=>?_;subst ab5
   refine ai (bJ.mp hn) λy0 hy ab6=>?_;subst ab6;refine⟨bl,?_⟩;have eg:=hg y0 hy;exact aE (gQ (A.o 1 rfl) (ig _ _ _) eg) (by rw[show PV.d6 (λn=>el (fG P) (.str n)) none (.str y0.1)=some (.ref y0.2.2) from eg] at D;exact D)
  rw[gH,ef];refine⟨by unfold xP;rw[aW];exact bL (by exact aw (by assumption) dc),λz3 J=>?_⟩;obtain⟨g⟩:=g;exact D _ z3 P (A.ext.trans (ay.set J _)) (A.ext.none J) (AH.a9 ..) e ⟨λy m=>fg J (e2 _ _ (g y m))⟩
end
theorem xS {F:bH}(x:St d F p Y)(k:a q f (.ref d::n) Q X Y)(j:Ev ⟨a,b,q,X,c,Y⟩ o (.ref d))(l:ji ⟨a,b,q,X,c,Y⟩ g n)(i:autoParam (Cl.au .i9 m=some f) aR)(s:autoParam (m.kU=none) aR)(h:autoParam (a6 f<b) aD):W a a6 b q (.au o m g) c Q X Y:=
 let⟨_,_,e⟩:=x.dk;c8 k j e l i (by refine B s ?_;rfl) h
inductive Pk (F:bH):List (Bs×Nat)->Prop
 |no (h:F (gp c9)=none):Pk F []
 |mk {L:List (Bs×Nat)} (h:F (gp c9)=some (jm L)) (l:A7 L):Pk F L
theorem FJ:gp c9∈dO:=List.contains_iff_mem.mp (by kernel_rfl:dO.contains (gp c9)=true)
section
variable (C:Ck f){F:bH}(x:St d F ((s,bZ d)::g) Y)(l:Pk F L)
include C x l
theorem FK (k:∀c z P,ay Y c->Y z=none->c z=some (.list (xP P))->kD P=L->mD P c->Q (.ref z) c):f false .BY [.ref s] Q X Y:=by
 refine aZ Zt C ?_;w_up;refine mu (c8 (qm C (x.o 0 rfl) rfl rfl dc dc λv a=>⟨bl,?_⟩) vr (x.o 0 rfl) (e1 vg));have x:=x.ext a;refine fR λK u t=>oR (nL (xS x (AY C x λb r=>?_) (va vr (x.o 0 rfl)) (e1 vr)));have m:=r FJ;refine B m ?_;refine qd (rB (nL (xS x (xI C x ?_) (va vr (x.o 0 rfl)) (e1 vr))));cases l with
 |no h=>exact B (h:F (gp [112,97,99,107,101,100,45,114,101,102,115])=_) (u _ (qf ⟨cI _,λz j=>k _ z [] (a.trans (ay.set j _)) (a.none j) (AH.a9 ..) rfl ⟨(by intros;contradiction)⟩⟩))
 |mk h l=>exact B (h:F (gp [112,97,99,107,101,100,45,114,101,102,115])=_) (t _ (sk (qf (((xS x (MQ C x h (aax ⟨dc,ab1 C l λw z P e n q p i=>k _ z P (a.trans e) (a.none n) q p i⟩ (e1 (va vr (x.o 0 rfl))))) (va vr (x.o 0 rfl)) (e1 vr)))))))
theorem Ny (M:L.lookup n=none->∀b,ay Y b->Q .none b)(k1:∀k b a,L.lookup n=some k->ay Y b->b a=some (iX n k)->Q (.ref a) b):f false .BZ [.ref s,.str n] Q X Y:=by
 refine aZ Zu C ?_;w_up;refine dX λK h=>c8 (FK C x l λi z P e1 hz w J u=>cQ w (h _ _ _ ?_)) vr (x.o 0 rfl) e0;clear h;obtain⟨u⟩:=u;refine eu (ι:=Option PV) (λy:gY=>PV.ref y.2.2) (λy=>L1 (.ref s) (L1 (.str n) (Lo y []))) (λr b=>b=i/\(∀y∈r,y∈P)/\L.lookup n=(kD r).lookup n) (λp b=>∃k a,p=.ref a/\L.lookup n=some k/\b=i/\i a=some (iX n k))
  (λy r v b K j N kr=>?_) (λO O j=>B j.1 w) (λy b j=>?_) (λp ρ b j=>?_) P none i (aS rfl (λO m=>m) (B J rfl))
 ·refine dD j λH A c=>B H ?_
  have t:=u y (A y bP);rw[kD,c3,d0] at c;refine⟨bl,fR λK kt h=>dK ?_ (tq (vq (va vr t) vr))⟩;cases e:y.1==n with
  |true=>rw[bG.mp e,ej] at c;rw[bG.mp e] at t;exact kt _ (ie (kr _ _ _ (lB _ _ rfl c rfl t)) vr)
  |false=>rw[eA.mpr λq=>by rw[q,ej] at e;injection e] at c;exact h _ (sk (sn (N _ _ (aS rfl (λz m=>A z (cn _ m)) c))))
 ·obtain⟨U,O,j⟩:=j;refine B U ?_
  exact tn (ie (M j _ e1) vc)
 ·exact lA j λk a D e G I=>B D (B G (k1 k _ a e e1 I))
end
abbrev Lm:=Bs->Option Vl
noncomputable def fU (aV:Lm)(n:Bs)(v:Option Vl):Lm:=λm=>if m=n then v else aV m
def lr (n:Bs):Bool:=cz.isSuffixOf n
inductive Rf (A:Lm)(L:List (Bs×Nat))(F:bH):Prop
 |mk (loose:∀n,n≠c9->lr n=false->F (gp n)=(A n).map Vl.fF) (b:∀n v,A n=some v->n∈Un/\v.ok) (a:Pk F L) (lk:∀y∈L,y.1∈Un)
noncomputable def bt (A:Lm)(L:List (Bs×Nat)):Lm:=λn=>(A n).or ((L.lookup n).map .id)
def xT (v:Option Vl):PV:=(v.map Vl.pv).getD .none
theorem xU:Un.all (λn=>(rI n&&(gA n true&&kv n))&&(!(n==c9)&&!(oV n&&fE n)))=true:=by kernel_rfl
theorem A9 {a:Type}{L:List (Bs×a)}{k:a}(h:L.lookup n=some k):(n,k)∈L:=mx h
inductive iL (n:Bs):Prop
 |mk (a:nQ n) (ok:gA n true=true) (d:kv n=true) (c:n≠c9) (b:lr n=false)
theorem ab7:Na.all (λn=>!lr n)=true:=cA
theorem xV (h:n∈Na):iL n:=by have:=bI.mp Nh n h;refine⟨nR (V this).1,(V (V this).2).1,(V (V this).2).2,λq=>?_,cw (bI.mp ab7 n h)⟩;rw[q] at h;exact absurd (i6.mpr h) (B (show Na.contains c9=false by kernel_rfl) dz)
theorem ab8 {F:bH}(a:Pk F L)(lk:∀y∈L,y.1∈Un){n:Bs}(h:oV n=true):L.lookup n=none:=by
 cases e:L.lookup n with
 |none=>rfl
 |some k=>
  have m:=A9 e;have:=(V (V (bI.mp xU n (lk _ m))).2).2;cases a with
  |no O=>cases m
  |mk O l=>obtain⟨O,ok,O⟩:=l;obtain⟨O,O,b,O⟩:=ok _ m;rw[h,show fE n=true from b] at this;injection this
def fi (F:bH):Prop:=∀n∈Un,F (gp n++cz)=none
theorem FL (m:Bs):lr (m++cz)=true:=List.isSuffixOf_iff_suffix.mpr (List.suffix_append m cz)
theorem rN (h:gp a=gp b):a=b:=by unfold gp at h;exact(List.cons.inj (List.append_cancel_left h)).2
theorem Ba (m:Bs):gp m++cz=gp (m++cz):=by unfold gp;rw[e6];rfl
theorem Rf.jw {F:bH}(r:Rf A L F)(m o:Bs):Rf A L (di F (gp m++cz) o):=by
 obtain⟨c,d,f,lk⟩:=r;have key:∀n,lr n=false->di F (gp m++cz) o (gp n)=F (gp n):=λn h=>aH λq=>by rw[Ba] at q;rw[rN q,FL] at h;injection h
 refine⟨λn e b=>(key n b).trans (c n e b),d,?_,lk⟩;have a:=key c9 rfl;cases f with
 |no h=>exact .no (a.trans h)
 |mk h l=>exact .mk (a.trans h) l
section
variable (C:Ck c){F:bH}(x:St d F ((s,bZ d)::f) Y)(r:Rf A L F)
include C x r
theorem xW (h:iL n)(b:∀U,ay Y U->Q (xT (bt A L n)) U):c false .B1 [.ref s,.str n] Q X Y:=by
 obtain⟨i,ok,t,np,nl⟩:=h;obtain⟨M,N,z,lk⟩:=r;refine aZ Zw C ?_;w_up;refine ee (ke (MZ C i (λO cN H=>?_) λe=>absurd (ok.symm.trans e) (λh=>by injection h)) (e2 vr vc));unfold kv at t;refine tY (λK k=>oR (rB (rA (ke (xN C i λbX j=>?_) (e1 vr))))) λbX j=>sk ?_
 ·cases e:oV n with
  |true=>exact k _ j
  |false=>rw[e] at t;exact qd (rB (nL (AK (FA (V t).2 (k _ j)) vr (e1 vg))))
 have x:=(x.ext H).ext j;refine mu (c8 (FE C x (by obtain⟨O,O,a,O,O⟩:=i;exact a) (by obtain⟨O,l,O,O,O⟩:=i;exact l) (M n np nl) (λu hv=>(N n u hv).2) λd8 D=>⟨bl,?_⟩) vr (x.o 0 rfl) (e1 vr));have x:=x.ext D;refine fR λK y kf=>?_;z_go;have g:=(H.trans j).trans D;cases m:A n with
 |some v=>refine B (show((Option.map Vl.pv (some v)).getD PV.none).isNone=false by cases v<;>rfl) (y _ (ie ?_ vr));exact B m (az (show bt A L n=some v by unfold bt;rw[m];rfl) (b _ g))
 |none=>
  refine⟨by decide,xN C i λj8 G=>?_⟩;have x:=x.ext G;have g:=g.trans G;have p:bt A L n=(L.lookup n).map .id:=by unfold bt;refine B m ?_;rfl
  cases J:oV n with
  |true=>refine y _ (ie ?_ vr);exact B m (az (show bt A L n=none by rw[p,ab8 z lk J];rfl) (b _ g))
  |false=>
   refine kf _ (sk (mu (c8 (Ny C x z (λq oH w=>?_) λk oH a q w I=>?_) vr (x.o 0 rfl) (e1 vr))))
   ·rw[p,q] at b
    exact⟨bl,qf (b _ (g.trans w))⟩
   ·rw[p,q] at b
    refine⟨bl,qf ?_⟩;z_go;exact bx I rfl rfl ⟨bl,b _ (g.trans w)⟩
end
theorem Nz (k:Q (.bool (fE l)) Y):hS .startswith (.str l) [Gl.lP.pv] Q Y:=k
theorem ab9 {F:bH}(r:Rf A L F)(h:kv n=false):bt A L n=none:=by
 obtain⟨O,a,O,lk⟩:=r;have key:n∉Un:=λm=>by have:=(V (V (V (bI.mp xU n m)).1).2).2;rw[h] at this;injection this
 unfold bt;cases e:A n with
 |some v=>exact absurd (a n v e).1 key
 |none=>
  cases e2:L.lookup n with
  |none=>rfl
  |some k=>exact absurd (lk _ (A9 e2)) key
section
variable (C:Ck b){F:bH}
include C
theorem aca (h:nQ n){K:Bool->AH->Prop}(k:∀j,ay Y j->K (kv n) j)(d:autoParam (p[i]? =some (some (.str n))) aR)(l:autoParam (a6 .lQ<c) aD)(m:autoParam (a6 .mT<c) aD):
  T b a6 c false (.bV false (.cons (.call .lQ (.cons (.af i) .nil)) (.cons (.bV true (.cons (.call .mT (.cons (.af i) .nil)) (.cons (.au (.af i) .startswith (.cons (.cH .lP) .nil)) .nil))) .nil)))
   (W b a6 c false (.bV false (.cons (.call .lQ (.cons (.af i) .nil)) (.cons (.bV true (.cons (.call .mT (.cons (.af i) .nil)) (.cons (.au (.af i) .startswith (.cons (.cH .lP) .nil)) .nil))) .nil)))) p K X Y:=by
 unfold kv at k;refine oR (rA (ke (xN C h λq a=>?_) (e1 (vr d)) l));cases e:oV n with
 |true=>rw[e] at k;exact k _ a
 |false=>
  rw[e,Bool.false_or] at k;refine qd (oR (rA (ke (A3 C h λr f=>?_) (e1 (vr d)) m)));cases e2:gA n false with
  |false=>rw[e2] at k;exact k _ (a.trans f)
  |true=>
   rw[e2,uW] at k;refine qd (nL (AK (Nz ?_) (vr d) (e1 vg)));cases g:fE n with
   |true=>rw[g] at k;exact k _ (a.trans f)
   |false=>rw[g] at k;exact k _ (a.trans f)
theorem NA (x:St d F ((s,bZ d)::U) Y)(r:Rf A L F)(l:nQ n)(y:lr n=false)(c:∀m,ay Y m->Q (.bool (bt A L n).isSome) m):b false .B6 [.ref s,.str n] Q X Y:=by
 refine aZ ZC C ?_;w_up;refine rz (!kv n) (λK k=>rB (aca C l k)) λD f=>?_;have x:=x.ext f;cases e:kv n with
 |false=>have c:=(ab9 r e)▸c;exact ie (c _ f) vc
 |true=>
  obtain⟨u,O,z,O⟩:=r;refine sk (qf (eJ x.dk λO O t=>?_));obtain⟨O,w,p,O,O⟩:=l;z_go;refine bx (x.o 0 rfl) rfl rfl (fA t rfl rfl (cX (x.o 0 rfl) rfl rfl dc (qm C (x.o 0 rfl) rfl rfl p w λG g=>⟨dc,xI C (x.ext g) (B (u n (λq=>absurd (q▸e) (by exact B (show kv c9=false by kernel_rfl) dz)) y) (B Option.isSome_map ?_))⟩)));have x:=x.ext g;unfold bt at c;cases j:A n with
  |some v=>have c:=j▸c;exact c _ (f.trans g)
  |none=>
   have c:=j▸c;z_go;refine gW rfl (cX (x.o 0 rfl) rfl rfl dc (Ny C x z (λh H i=>?_) λk H a h i O=>?_))
   ·have c:=h▸c;exact c _ ((f.trans g).trans i)
   ·have c:=h▸c;exact c _ ((f.trans g).trans i)
end
noncomputable def ch (aV:Lm):Nat->List Bs->Bs->Option (List Bs×Option Nat)
 |0,_,_=>none
 |m+1,ns,l=>match aV l with
  |none=>some (ns,none)
  |some (.id k)=>some (ns,some k)
  |some (.cq t)=>ch aV m (ns++[t]) t
theorem FN {C:Nat->List Bs->Bs->List Bs->Prop}(e:∀m ns l,C (m+1) ns l ns)(s:∀m ns l t r,aV l=some (.cq t)->C m (ns++[t]) t r->C (m+1) ns l r)(m:Nat):∀(ns:List Bs) (l:Bs) {r:List Bs} {o:Option Nat},ch aV m ns l=some (r,o)->C m ns l r:=by
 induction m with
 |zero=>intro O O O O h;injection h
 |succ m b=>
  intro ns l r o h;have h:(match aV l with|none=>some (ns,none)|some (.id k)=>some (ns,some k)|some (.cq t)=>ch aV m (ns++[t]) t)=some (r,o):=h;cases a:aV l with
  |none=>rw[a] at h;cases h;exact e m ns l
  |some v=>
   rw[a] at h;cases v with
   |id k=>cases h;exact e m ns l
   |cq t=>exact s m ns l t r a (b _ _ h)
def ov (o:Option Nat):PV:=match o with|none=>.none|some k=>.bytes (cC k)
inductive ChJ (a:AH)(z:Addr)(aV:Lm)(c:Option (List Bs×Option Nat))(m:Nat)(l:Bs)(Y:AH):Prop
 |mk (ns:List Bs) (x:Nw a [(z,.list (ns.map .str))] Y) (e:c=ch aV m ns l) (h:iL l) (b:ns.length+m<=7)
inductive ChR (a:AH)(c:Option (List Bs×Option Nat))(p:PV)(Y:AH):Prop
 |mk (ns:List Bs) (o:Option Nat) (z:Addr) (e:p=.av [.ref z,ov o]) (h:c=some (ns,o)) (x:Nw a [(z,.list (ns.map .str))] Y)
theorem ace {F:bH}(r:Rf A L F)(h:bt A L n=some (.cq t)):t∈Nt:=by
 obtain⟨O,a,O,O⟩:=r;unfold bt at h;cases e:A n with
 |some v=>
  have h:=e▸h;cases h;cases(a n _ e).2 with
  |cq h=>exact h
 |none=>
  have h:=e▸h;cases e2:L.lookup n with
  |none=>have h:=e2▸h;cases h
  |some k=>have h:=e2▸h;cases h
section
variable (C:Ck c){F:bH}(x:St d F ((s,bZ d)::f) Y)(r:Rf A L F)(b:iL n)
include C x r b
theorem xX (D:∀ns o a z,ch (bt A L) 6 [n] n=some (ns,o)->Nw Y [(z,.list (ns.map .str))] a->Q (.av [.ref z,ov o]) a)(U:ch (bt A L) 6 [n] n=none->∀a,ay Y a->X .jx (.str n) a):c false .B2 [.ref s,.str n] Q X Y:=by
 refine aZ Zx C ?_;w_up;k_in;refine⟨bl,(Nw.refl Y).bw λz M y N=>jt (bl) rfl rfl (bl) (bl) ?_⟩;refine dX λK l=>?_;z_go;refine h9 ⟨(cZ ⟨dc,dc⟩ ⟨dc,dc⟩ dc dc),l _ _ _ ?_⟩;clear l;refine EW (ι:=Bs×Option PV×Option PV) (λ(k:Nat)=>PV.int (0+1*k)) (λy=>L1 (.ref s) (L1 (.str n) (L1 (.ref z) (L1 (.str y.1) (Lo y.2.1 (Lo y.2.2 [])))))) (λr y a=>ChJ Y z (bt A L) (ch (bt A L) 6 [n] n) r.length y.1 a) (ChR Y (ch (bt A L) 6 [n] n))
  (λk I y a K j G m=>?_) (λO O O O=>trivial) (λy a j=>?_) (λp ρ a j=>?_) (List.range 6) (n,none,none) M ⟨[n],y,rfl,b,dE 7⟩
 ·obtain⟨ns,g,e,H,w⟩:=j
  refine⟨bl,mu (c8 (xW C (x.ext g.ext) r H λbX J=>⟨bl,?_⟩) vr (g.ext _ _ (x.o 0 rfl)) (e1 vr))⟩;have h:=g.on J;have e:_=(match bt A L y.1 with|none=>some (ns,none)|some (.id k)=>some (ns,some k)|some (.cq t)=>ch (bt A L) I.length (ns++[t]) t):=e;cases i:bt A L y.1 with
  |none=>rw[i] at e;exact lq (λK k=>dK k (tq (vq vr vc))) (ie (m _ _ _ ⟨ns,none,z,rfl,e,h⟩) (vt (e2 vr vc)))
  |some v=>
   rw[i] at e;cases v with
   |id k=>refine gh (λK k=>dK k (tq (vq vr vc))) (sk (lq (λK k=>dK k (tq (vq (vi vr vc) vc))) (ie (m _ _ _ ⟨ns,some k,z,rfl,e,h⟩) (vt (e2 vr (vi vr vc))))))
   |cq t=>
    refine gh (λK k=>dK k (tq (vq vr vc))) (sk (gh (λK k=>dK k (tq (vq (vi vr vc) vc))) (sk (t8 (ee (qe ?_ vr (h.o 0 rfl) (e1 vr))) (vi vr vc)))));refine⟨?_,?_⟩
    ·rw[aW];exact bL (vo (by assumption) dc)
    ·have q:=h.dt (.list ((ns++[t]).map .str))
     rw[cF] at q;exact sn (G (t,_,_) _ ⟨ns++[t],by refine B cF ?_;exact q,e,xV (fX _ (ace r i)),by refine B bR ?_;show _+1+_<=7;rw[e8] at w;exact sr (by assumption)⟩)
 ·obtain⟨ns,g,e,O,O⟩:=j
  refine tn (sc ?_);z_go;exact cZ rfl rfl rfl (U e _ g.ext)
 ·obtain⟨ns,o,z,u,e,g⟩:=j;refine B u ?_
  exact D _ _ _ _ e g
end
theorem Bb (a:ns≠[])(h:ch aV m ns l=some (r,o)):r≠[]:=
 FN (C:=λO ns O r=>ns≠[]->r≠[]) (λO O O h=>h) (λO O O O O O b O=>b (List.append_ne_nil_of_right_ne_nil _ (sd _ _))) m ns l h a
theorem xY (e:Y z=some (.list (ns.map .str)))(h:ns≠[]):ix Y (.ref z) (.int (-1))=some (.str (ns.getLastD [])):=by
 rcases ym ns with rfl|⟨r,l,rfl⟩
 ·exact absurd rfl h
 ·rw[yn] at e⊢
  refine ET (j:=r.length) e ?_ ?_
  ·rw[aW,bR];exact MU _
  ·rw[List.getLastD_concat,cF,Bx (by rw[aW];exact dE _),aW,Nat.sub_self];rfl
section
variable (C:Ck c){F:bH}(x:St d F ((s,bZ d)::f) Y)(r:Rf A L F)(b:iL n)
include C x r b
theorem acf (h:ch (bt A L) 6 [n] n=some (ns,o))(i:∀a,ay Y a->Q (.av [.str (ns.getLastD []),ov o]) a):c false .B3 [.ref s,.str n] Q X Y:=by refine aZ Zy C ?_;w_up;refine sc (c8 (xX C x r b (λj k a z g y=>?_) λe=>(by injection (h.symm.trans e))) vr (x.o 0 rfl) (e1 vr));cases h.symm.trans g;refine gm rfl rfl (bl) (bl) (tn (ie (i _ y.ext) (vt (e2 (vi vr (vn vc) (xY (y.o 0 rfl) (Bb (sd _ _) h))) vr))))
theorem acg (h:ch (bt A L) 6 [n] n=some (ns,o))(i:∀a,ay Y a->Q (ov o) a):c false .B4 [.ref s,.str n] Q X Y:=by refine aZ Zz C ?_;w_up;refine qf (c8 (xX C x r b (λj k a z g y=>?_) λe=>nomatch h.symm.trans e) vr (x.o 0 rfl) (e1 vr));cases h.symm.trans g;exact aE rfl (i _ y.ext)
theorem NB (i:∀ns o g,(ch (bt A L) 6 [n] n).getD ([],none)=(ns,o)->ay Y g->∀z,Q (.av [.ref z,ov o]) g):c false .B5 [.ref s,.str n] Q X Y:=by
 refine aZ ZA C ?_;w_up;k_in;refine⟨bl,(Nw.refl Y).bw λz l y a=>aS (bl) (bl) (sc (mu (c8 (xX C (x.ext a) r b (λns o g z h y=>⟨bl,?_⟩) λe g k=>Fs ?_) vr (a _ _ (x.o 0 rfl)) (e1 vr))))⟩
 ·exact sk (ie (i ns o _ (by refine B h ?_;rfl) (a.trans y.ext) z) vr)
 ·k_in
  refine⟨bl,λz j=>aS (bl) (bl) (sk (ie (i [] none _ (by refine B e ?_;rfl) ((a.trans k).trans (ay.set j _)) z) vr))⟩
end
theorem ach:Ub.all (λp=>Un.any λn=>((p==gp n&&(fE n&&kq++bT p (some 10) none==n))&&((gA n false&&!lr n)&&rI n))||p==gp (n++cz))=true:=by kernel_rfl
inductive uv (A:Lm)(n:Bs):Prop
 |mk (c:n∈Un) (b:fE n=true) (ok:gA n false=true) (a:nQ n) (v:Vl) (e:A n=some v)
inductive NC (A:Lm)(p:Bs):Prop
 |mk (n:Bs) (h:uv A n) (e:kq++bT p (some 10) none=n) (l:p.length<=1000)
theorem aci {F:bH}(r:Rf A L F)(f:fi F)(h:(F p).isSome=true)(m:p∈Ub):NC A p:=by
 obtain⟨e,j,O,O⟩:=r;refine ai (uQ.mp (bI.mp ach p m)) λn d q=>?_;rcases lU q with q|q
 ·refine Ka (V q) λg a=>Ka (V g) λi b=>?_
  rw[(bG.mp i),e n (λz=>absurd (z▸(V b).1) (by exact B (show fE c9=false by kernel_rfl) dz)) (cw (V (V a).1).2)] at h;cases c:A n with
  |none=>rw[c] at h;injection h
  |some v=>exact⟨n,⟨d,(V b).1,(V (V a).1).1,nR (V a).2,v,c⟩,bG.mp (V b).2,(qj (se.mp m).1).2⟩
 ·rw[bG.mp q,←Ba,f n d] at h;injection h
inductive LsJ (A:Lm)(d z b s:Addr)(F:bH)(a:List Bs)(c:iV)(r:List Bs)(Y:AH):Prop
 |mk (ns:List Bs) (x:St d F ((z,.list (ns.map .str))::(b,.list (a.map .bytes))::(s,bZ d)::c) Y) (e:ns.length+r.length<=a.length) (ok:∀n∈ns,uv A n) (f:∀p∈r,NC A p)
section
variable (C:Ck i){F:bH}(x:St d F ((s,bZ d)::g) Y)(r:Rf A L F)(a:fi F)
include C x r a
theorem ND (U:∀t z (h:List Bs),St d F ((z,.list (h.map .str))::(s,bZ d)::g) t->h.length<64->(∀n∈h,uv A n)->Q (.ref z) t):i false .B7 [.ref s] Q X Y:=by
 refine aZ ZD C ?_;w_up;k_in;refine⟨bl,λz u=>cX (fg u (x.o 0 rfl)) rfl rfl dc (qm C (fg u (x.o 0 rfl)) rfl rfl dc dc λcN x1=>jt (bl) rfl rfl (bl) (bl) ?_)⟩;have x:=(x.new u (.list [])).ext x1;refine fR λK v k=>rB (nL (xS x (AY C x λb O=>?_) (va vr (x.o 1 rfl)) (e1 vr)));cases b with
 |false=>exact v _ (ie (U _ z [] x dc (by intros;contradiction)) vr)
 |true=>
  refine k _ (sk (dX λK k=>xS x (abq C x λJ zw h x hl D=>cQ (x.o 0 rfl) (k _ _ _ ?_)) (va vr (x.o 1 rfl)) (e1 vr)));clear k;refine eu (ι:=Option PV×Option PV) .bytes (λy=>L1 (.ref s) (L1 (.ref z) (L1 (.bytes mB) (Lo y.1 (Lo y.2 []))))) (LsJ A d z zw s F h g) (λO O=>False)
   (λp r y t K j kn O=>?_) (λO O j=>(by obtain⟨O,x,O,O,O⟩:=j;exact x.o 1 rfl)) (λy t j=>?_) (λO O O f=>f.elim) h (none,none) J ⟨[],x.aX 1 rfl,by rw[yE,lI];exact dE _,(by intros;contradiction),λp m=>aci r a (D p m).1 (D p m).2⟩
  ·obtain⟨ns,x,l,ok,w⟩:=j
   obtain⟨n,G,e,I⟩:=w p bP;obtain⟨O,O,ok2,H,O,O⟩:=id G;obtain⟨O,ln,M,O,O⟩:=id H;have N:=uj p (some 10) none;refine⟨bl,?_⟩;k_in;refine⟨rfl,aE (r:=.int 9) (len_bytes (bl)) (h9 (nS (r:=bT p (some 10) none) rfl (bL I) ⟨dc,AN C (λc m=>M c (by exact az e (fX _ m))) (aw N (bL I)) λJ x2=>qb (show 5+(bT p (some 10) none).length<=aI by unfold aI;lia) ⟨bl,B (e:([114,101,102,115,47]:Bs)++bT p (some 10) none=n) ?_⟩⟩))⟩;have x:=x.ext x2;refine fR λK v k=>rA (ke (A3 C H λd8 x3=>?_) (e1 vr));refine B ok2 ?_;have x:=x.ext x3;refine v _ (ee (qe ?_ vr (x.o 0 rfl) (e1 vr)));have x:=x.dt (.list ((ns++[n]).map .str));rw[cF] at x;refine⟨by rw[aW];rw[e8] at l;exact bL (by exact Gu bW bW dc),sk (sn (kn (_,_) _ ⟨ns++[n],by refine B cF ?_;exact x,by refine B bR ?_;rw[e8] at l;show _+1+_<=_;exact sr bW,λy m=>?_,λq m=>w q (cn _ m)⟩))⟩;rcases hG.mp m with m|m
   ·exact ok y m
   ·exact B (eR.mp m) G
  ·obtain⟨ns,x,l,ok,w⟩:=j
   refine tn ?_;k_in;rw[yE,Nat.add_zero] at l;exact⟨rfl,Mn (x.o 0 rfl) (xO ns) (by rw[aW];exact gG bW bW) λz2 oz=>(U _ z2 _ (x.drop.drop.new oz (.list ((dS ns).map .str))) (by exact B ((iR ns).length_eq) (gG bW bW)) λn m=>ok n ((iR ns).mem_iff.mp m))⟩
end
def kE (D:List (Bs×Unit)):List (PV×PV):=eY (λO:Unit=>PV.bool true) D
inductive uw (D:List (Bs×Unit)):Prop
 |mk (a:(D.map (·.1)).Nodup) (b:∀n∈D.map (·.1),n∈Un)
theorem uw.dN (h:uw D):D.length<=18:=by obtain⟨a,b⟩:=h;have:=ud a b;rw[aW] at this;exact aw this (Nat.le_of_ble_eq_true (by kernel_rfl))
theorem uw.dA {D:List (Bs×Unit)}(h:uw D)(m:n∈Un):uw (bg D n ()):=by
 obtain⟨e,f⟩:=h;refine⟨xF e _ _,λk b=>(ai (bJ.mp b) λy c a=>az a ?_)⟩;rcases Fb c with q|⟨z,d,q⟩
 ·exact B q m
 ·exact az q (f _ (bJ.mpr (aQ z d rfl)))
theorem NF (D:List (Bs×Unit))(n:Bs):fx (kE D) (.str n) (.bool true)=kE (bg D n ()):=rK _ D n ()
theorem Bc (D:List (Bs×Unit)):(kE D).length=D.length:=by unfold kE eY;rw[aW]
theorem FO {Y:AH}(e:Y a=some (.bc c d))(b:Y z=some (.dict f g)):(Y.set z o) a=some (.bc c d):=(AH.cJ _ _ λq=>by have e:=q▸e;have e:=b▸e;cases e).trans e
theorem NG {Y:AH}(e:Y a=some (.list c))(b:Y z=some (.dict d f)):(Y.set z o) a=some (.list c):=(AH.cJ _ _ λq=>by have e:=q▸e;have e:=b▸e;cases e).trans e
inductive rO (d b s:Addr)(F:bH)(c:iV)(Y:AH):Prop
 |mk (a:Nat) (D:List (Bs×Unit)) (x:St d F ((b,.dict a (kE D))::(s,bZ d)::c) Y) (h:uw D)
theorem rO.dA {F:bH}(j:rO d a s F f Y)(m:n∈Un){K:AH->Prop}(k:∀o b e,Y a=some (.dict b e)->rO d a s F f (Y.set a o)->K (Y.set a o)):qL Y a (.str n) (.bool true) K:=by
 obtain⟨b,D,x,h⟩:=j;refine jh (x.o 0 rfl) (aS (ig _ _ _) ?_ (λc=>?_))
 ·rw[Bc];exact bL (aw h.dN dc)
 ·refine k _ _ _ (x.o 0 rfl) ?_
  rw[NF];exact⟨c,bg D n (),x.dt _,h.dA m⟩
noncomputable def nV (f:Bs->Bool)(x:PV):Option PV:=x.d6 (λn=>if f n=true then some (PV.str n) else none) none
theorem xZ (f:Bs->Bool):∀l:List Bs,(l.map PV.str).filterMap (nV f)=(l.filter f).map PV.str
 |[]=>rfl
 |a::r=>by refine B c3 (B mK (B kL (B (xZ f r) (B (show nV f (PV.str a)=(if f a=true then some (PV.str a) else none) from rfl) ?_))));cases f a<;>rfl
section
variable (C:Ck g){F:bH}(x:St d F ((s,bZ d)::a) Y)(r:Rf A L F)(b:fi F)
include C x r b
theorem acm (kk:∀c z (q:List Bs),St d F ((z,.list (q.map .str))::(s,bZ d)::a) c->q.length<40->(∀n∈q,n∈Un)->Q (.ref z) c):g false .B8 [.ref s] Q X Y:=by
 refine aZ (j:=0) ZE C ?_;w_up;k_in;refine λi w hz=>⟨bl,?_⟩;have x:=x.new hz (.dict i (kE []));obtain⟨O,O,pk,lk⟩:=id r;refine dX λK t=>c8 (FK C (x.aX 1 rfl) pk λJ zp P x1 O I N G=>cQ I (t _ _ _ ?_)) vr (x.o 1 rfl) e0;clear t;have j:rO d w s F a J:=⟨i,[],x.ext x1,⟨o7,(by intros;contradiction)⟩⟩;obtain⟨G⟩:=G;clear x;refine eu (ι:=Option PV) (λy:gY=>PV.ref y.2.2) (λy=>L1 (.ref s) (L1 (.str [114,101,102,115,47]) (L1 (.ref w) (Lo y (L0 (L0 [])))))) (λr c=>rO d w s F a c/\(∀y∈r,c y.2.2=some (iX y.1 y.2.1)/\y.1∈Un)/\c zp=some (.list (xP P))) (λO O=>False)
  (λp r y c K j U O=>?_) (λO O j=>j.2.2) (λy c j=>?_) (λO O O f=>f.elim) P none J (aS j (λy m=>⟨G y m,(λy m=>lk (y.1,y.2.1) (by rw[←N];exact bJ.mpr (aQ y m rfl))) y m⟩) I)
 ·refine dD j λj l j3=>Ka (l p bP) λe m=>⟨bl,?_⟩
  k_in;exact bx e rfl rfl (j.dA m λo i es H j=>sn (U _ _ (aS j (λy m=>⟨FO (l y (cn _ m)).1 H,(l y (cn _ m)).2⟩) (NG j3 H))))
 refine dD j λj O O=>?_;obtain⟨i,D,x,h⟩:=j;refine tn (dX λK t=>c8 (ND C (x.aX 1 rfl) r b λbX zl q x hl x6=>cQ (x.o 0 rfl) (t _ _ _ ?_)) vr (x.o 1 rfl) e0);clear t;refine eu (ι:=Option PV) .str (λv=>L1 (.ref s) (L1 (.str [114,101,102,115,47]) (L1 (.ref w) (Lo y (Lo v (L0 [])))))) (λr c=>rO d w s F ((zl,.list (q.map .str))::a) c/\∀n∈r,n∈Un) (λO O=>False)
  (λp r y c K j U O=>?_) (λO O j=>(by refine Ka j λacn O=>?_;obtain⟨O,O,x,O⟩:=acn;exact x.o 2 rfl)) (λy c j=>?_) (λO O O f=>f.elim) q none bX ⟨⟨i,D,(x.aX 1 rfl).aX 2 rfl,h⟩,λn m=>(by obtain⟨u,O,O,O,O,O⟩:=x6 n m;exact u)⟩
 ·refine Ka j λj l=>⟨bl,?_⟩
  k_in;exact j.dA (l p bP) λo i es H j=>sn (U _ _ ⟨j,λy m=>l y (cn _ m)⟩)
 refine Ka j λaco O=>?_;obtain⟨i,D,x,h⟩:=aco;refine tn (sc ?_);z_go;have hf:=h.dN;refine aS rfl rfl (rx (x.o 0 rfl) (by exact B (A6 _ D) (xO _)) (by rw[Bc];exact gG (by assumption) dc) λz3 FP=>cQ (AH.a9 ..) ⟨?_,?_⟩)
 ·rw[aW,(iR _).length_eq,aW];exact bL (by exact aw (by assumption) dc)
 have ef:((dS (D.map (·.1))).map PV.str).filterMap (nV fE)=((dS (D.map (·.1))).filter fE).map PV.str:=xZ _ _;have len:((dS (D.map (·.1))).filter fE).length<40:=gG (mJ _ _) (by rw[(iR _).length_eq,aW];exact gG (by assumption) dc);refine ib (nV fE) (AH.a9 ..) _ [] (λv m K k=>?_) ?_
 ·refine ai (bJ.mp m) λn O M=>?_;subst M
  have k:K (if fE n=true then some (.str n) else none) _:=k;refine⟨bl,dB rfl (cZ rfl rfl rfl (Nz ?_))⟩;cases e:fE n with
  |true=>rw[e] at k;exact k
  |false=>rw[e] at k;exact k
 rw[gH,ef];refine⟨by rw[aW];exact bL (by exact aw (ip (by assumption)) dc),λz4 NH=>?_⟩;have x:=(((x.new FP (.list ((dS (D.map (·.1))).map .str))).drop.drop.new NH (.list (((dS (D.map (·.1))).filter fE).map .str))).aX 2 rfl).drop;obtain⟨O,un⟩:=h;exact kk _ z4 _ x len λn m=>un n ((iR _).mem_iff.mp (se.mp m).1)
end
noncomputable def Bd (n:Bs)(y:Bs×Bs):Int:=(n.length:Int)-y.1.length-y.2.length
def jM (n:Bs) (y:Bs×Bs):Bool:=decide (Bd n y>0)&&(Txt.startswith (bp n) (bp y.1)&&Txt.endswith (bp n) (bp y.2))
def gZ (n:Bs) (y:Bs×Bs):Bs:=bT n (some y.1.length) (some ((y.1.length:Int)+Bd n y))
def g5 (aV:Lm) (n t:Bs):List Bs:=(iW t).filter λc=>!(c==n)&&(aV c).isSome
def jN (aV:Lm) (n:Bs):List (Bs×Bs)->Bs
 |[]=>n
 |y::r=>bif jM n y&&(g5 aV n (gZ n y)).isEmpty then gZ n y else jN aV n r
noncomputable def jn:List (Bs×Bs):=(ui.drop 1).reverse
theorem NI:eI.all (λn=>jn.all λy=>!jM n y||(iW (gZ n y)).all λc=>rI c&&!lr c)=true:=by kernel_rfl
theorem Be (e:Y a=some (.list g))(c:Y z=some (.list []))(b:a≠z):dG Y .eq (.ref a) (.ref z)=some (g.length==0):=by refine(?_:(if a=z then none else lS _ _ (Y a))=_);refine B (aH b) (B e (?_:(if a=z then none else dq (λd=>dq (λf=>kQ (eS Y 3) d f) none (Y z)) none (Y a))=_));refine B (aH b) (B (kc e) (B (kc c) ?_));unfold kQ;refine B List.zipWith_nil_right ?_;rfl
theorem acp:∀y∈jn,y.1.length<=100/\y.2.length<=100:=dc
theorem rP {lo a:PV}(c:kT l lo a=some r)(b:l.length<=aI)(k:Q (.str r) Y):sX (.str l) lo a .none Q Y:=by refine(?_:bQ (kT l lo a) _);exact B c ⟨b,k⟩
theorem acq (k:Q (.bool (Txt.startswith (bp l) (bp p))) Y):hS .startswith (.str l) [.str p] Q Y:=k
theorem acr (k:Q (.bool (Txt.endswith (bp l) (bp p))) Y):hS .endswith (.str l) [.str p] Q Y:=k
section
variable (C:Ck f){F:bH}(x:St d F ((s,bZ d)::g) Y)(r:Rf A L F)(b:n∈eI)
include C x r b
theorem acs (I:∀a,ay Y a->Q (.str (jN (bt A L) n jn)) a):f false .B9 [.ref s,.str n] Q X Y:=by
 refine aZ ZF C ?_;w_up;obtain⟨⟨O,M,O,O,O⟩,O,O,O⟩:=xV (r8 _ b:n∈Na);refine dX λK kf=>?_;z_go;refine cZ rfl rfl ⟨dc,dc⟩ (kf _ _ _ ?_);clear kf;refine eu (ι:=Option PV×Option PV×Option PV×Option PV×Option PV) (λy:Bs×Bs=>PV.av [.str y.1,.str y.2]) (λv=>L1 (.ref s) (L1 (.str n) (Lo v.1 (Lo v.2.1 (Lo v.2.2.1 (Lo v.2.2.2.1 (Lo v.2.2.2.2 (L0 []))))))))
  (λD a=>(∀y∈D,y∈jn)/\ay Y a/\jN (bt A L) n D=jN (bt A L) n jn) (λp a=>p=.str (jN (bt A L) n jn)/\ay Y a)
  (λy D v a K j kn kr=>?_) (λO O O=>trivial) (λv a j=>?_) (λp ρ a j=>?_) jn (none,none,none,none,none) Y (aS (λO m=>m) (ay.refl _) rfl)
 ·refine dD j λw i h=>Ka (acp y (w y bP)) λJ l2=>?_
  have H:=bI.mp (bI.mp NI n b) y (w y bP);have h:(bif jM n y&&(g5 (bt A L) n (gZ n y)).isEmpty then gZ n y else jN (bt A L) n D)=_:=h;z_go;refine gm rfl rfl (bl) (bl) ?_;k_in;refine⟨rfl,aE (len_str (bL M)) ⟨rfl,aE (len_str (bL (aw J dc))) (EU ⟨rfl,aE (len_str (bL (aw l2 dc))) (EU ⟨bl,rz (jM n y) (λK k=>?_) λbX x2=>?_⟩)⟩)⟩⟩
  ·unfold jM at k
   refine oR (dK (b:=decide (Bd n y>0)) ?_ (tq (vq vr vc)));cases e1:decide (Bd n y>0) with
   |false=>rw[e1] at k;exact k _ (ay.refl _)
   |true=>
    rw[e1] at k;refine qd (nL (AK (acq ?_) vr (Internal.e1 vr)));cases e2:Txt.startswith (bp n) (bp y.1) with
    |false=>rw[e2] at k;exact k _ (ay.refl _)
    |true=>
     rw[e2] at k;refine qd (nL (AK (acr ?_) vr (Internal.e1 vr)));cases N:Txt.endswith (bp n) (bp y.2) with
     |false=>rw[N] at k;exact k _ (ay.refl _)
     |true=>rw[N] at k;exact k _ (ay.refl _)
  have i:=i.trans x2;cases U:jM n y with
  |false=>rw[U] at h;exact sk (sn (kn (_,_,_,_,_) _ (aS (λz m=>w z (cn _ m)) i h)))
  |true=>
   rw[U,uW] at h;rw[U] at H;k_in;refine⟨rfl,aE (len_str (bL (aw J dc))) ⟨rfl,aE (len_str (bL (aw J dc))) (h9 (rP (r:=gZ n y) rfl (bL M) ⟨bl,?_⟩))⟩⟩;have lt:(gZ n y).length<=1000:=aw (uj _ _ _) M;generalize gZ n y=t at h H lt;k_in;refine aS rfl dc (Fv C lt λd8 z x3 hz ez=>cQ ez ⟨bl,xv (nV λc=>!(c==n)&&(bt A L c).isSome) (σ₀:=d8) (λY e=>e _ _ ez) _ [] d8 (ay.refl _) (λv m j8 K G k=>?_) λj8 G=>?_⟩)
   ·refine ai (bJ.mp m) λc hc acu=>?_;subst acu
    have k:∀a,ay j8 a->K (if(!(c==n)&&(bt A L c).isSome)=true then some (.str c) else none) a:=k;refine⟨bl,dB rfl (aE rfl ?_)⟩;cases e:c==n with
    |true=>rw[e] at k;exact k _ (ay.refl _)
    |false=>
     rw[e,Bool.not_false,uW] at k;have x:=((x.ext i).ext x3).ext G;refine gR rfl (cX (x.o 0 rfl) rfl rfl dc (NA C x r (nR (V (bI.mp H c hc)).1) (cw (V (bI.mp H c hc)).2) λoH l=>?_));cases e5:(bt A L c).isSome with
     |true=>rw[e5] at k;exact k _ l
     |false=>rw[e5] at k;exact k _ l
   ·rw[gH,show((iW t).map PV.str).filterMap (nV λc=>!(c==n)&&(bt A L c).isSome)=(g5 (bt A L) n t).map PV.str from xZ _ _]
    refine⟨by rw[aW];exact bL (aw (mJ _ _) dc),λz2 oz=>⟨bl,?_⟩⟩;have xx:=(i.trans (x3.trans G)).trans (ay.set oz (.list ((g5 (bt A L) n t).map .str)));refine rz (g5 (bt A L) n t).isEmpty (λK k=>?_) λoH l=>?_
    ·z_go
     refine⟨bl,λz4 u=>aE (Be (fg u (AH.a9 ..)) (AH.a9 ..) λq=>?_) ?_⟩
     ·rw[←q,AH.a9] at u;injection u
     ·rw[aW]
      have k:=k _ (ay.set u (.list []));cases e:g5 (bt A L) n t with
      |nil=>rw[e] at k;exact k
      |cons O O=>rw[e] at k;exact k
    ·cases e:(g5 (bt A L) n t).isEmpty with
     |true=>rw[e] at h;exact ie (kr _ _ _ ⟨br PV.str h,xx.trans l⟩) vr
     |false=>rw[e] at h;exact sk (sn (kn (_,_,_,_,_) _ (aS (λz m=>w z (cn _ m)) (xx.trans l) h)))
 ·exact dD j λO i e=>tn (ie (by rw[show jN (bt A L) n []=n from rfl] at e;rw[←e] at I;exact I _ i) vr)
 ·refine Ka j λw4 i=>?_;refine B w4 ?_
  exact I _ i
end
noncomputable def Vl.rQ:Vl->Bool|id O=>false|cq O=>true
def Vl.new:Vl->PV|id k=>.bytes (cC k)|cq t=>.str t
def fV (n:Bs) (v:Vl):bS:=.bc .ir [(.name,.str n),(.new,v.new),(.hH,.none),(.qE,.bool v.rQ),(.BF,.str []),(.yF,.bool !v.rQ)]
def ih (c:Addr) (n:Bs) (du:Addr) (b a lk:PV):bS:=.bc .pg [(.change,.ref c),(.name,.str n),(.du,.ref du),(.ve,b),(.b9,a),(.jw,lk)]
def ij (s ch a b:Addr):bS:=.bc .vl [(.iN,.ref s),(.yH,.ref ch),(.lN,.ref a),(.fm,.ref b),(.pe,.none)]
def pn (aV:Lm) (n:Bs) (v:Vl):Option Bs:=if v.rQ=true then some n else(ch aV 6 [n] n).map λy=>y.1.getLastD []
theorem Bf {F:bH}(x:St d F ((z,.bc k g)::p) Y)(m:∀i,St d F ((z,.bc k (jc g n v))::p) i->Ss b a6 f q r a Q X i)(h:Ev ⟨b,f,q,λc t=>X c t a,a,Y⟩ e v)(j:Ev ⟨b,f,q,λc t=>X c t a,a,Y⟩ D (.ref z))(l:autoParam ((k.fM n&&Nat.ble g.length 50)=true) aR):Ss b a6 f q (.cons (.assign (.aj D n) e) r) a Q X Y:=jj (m _ (x.dt _)) h j (x.o 0 rfl) l
theorem St.dA {F:bH}{o o':bS}{P:AH->Prop}(x:St d F ((z,o)::τ) Y)(k:∀a,St d F ((z,o')::τ) a->P a):P (Y.set z o'):=k _ (x.dt o')
theorem St.bw {F:bH}(x:St d F τ Y){o:bS}(k:∀z a,St d F ((z,o)::τ) a->Q (.ref z) a):bw Y o Q:=λz b=>k z _ (x.new b o)
section
variable (C:Ck a)
include C
theorem FQ (e:Y z=some (.bc .si []))(k:Q .none (Y.set z (bZ d))):a false .Ca [.ref z,.ref d,.bytes AV,.int 4] Q X Y:=by refine aZ (j:=0) ZG C ?_;w_up;k_in;refine cZ (bl) rfl rfl (rq e ⟨⟨rfl,bl⟩,rq (AH.a9 ..) ⟨⟨rfl,bl⟩,rq (AH.a9 ..) ⟨⟨rfl,bl⟩,?_⟩⟩⟩);rw[AH.fh,AH.fh];refine jj ?_ vr vr (AH.a9 ..);rw[AH.fh];exact sn k
theorem FR (e:Y z=some (.bc .ir []))(b:vs=(if v.rQ=true then[.none,.bool true,.str [],.bool false] else[]))(k:Q .none (Y.set z (fV n v))):a q .qG (.ref z::.str n::v.new::vs) Q X Y:=by
 have key:Ss a a6 0 q EK (L1 (.ref z) (L1 (.str n) (L1 v.new (L1 .none (L1 (.bool v.rQ) (L1 (.str []) (L1 (.bool !v.rQ) []))))))) (cj Q) (h8 X) Y:=by unfold EK;w_up;refine jj (jj (jj (jj (jj (jj ?_ vr vr (AH.a9 ..)) vr vr (AH.a9 ..)) vr vr (AH.a9 ..)) vr vr (AH.a9 ..)) vr vr (AH.a9 ..)) vr vr e;rw[AH.fh,AH.fh,AH.fh,AH.fh,AH.fh];exact sn k
 cases v with
 |id O=>subst b;exact aZ (j:=0) Mb C key
 |cq O=>subst b;exact aZ (j:=4) Mb C key
theorem acv (e:Y z=some (.bc .pg []))(k:Q .none (Y.set z (ih c n du .none .none .none))):a q .yV [.ref z,.ref c,.str n,.ref du] Q X Y:=by refine aZ ZM C ?_;w_up;refine jj (jj (jj (jj (jj (jj ?_ vc vr (AH.a9 ..)) vc vr (AH.a9 ..)) vc vr (AH.a9 ..)) vr vr (AH.a9 ..)) vr vr (AH.a9 ..)) vr vr e;rw[AH.fh,AH.fh,AH.fh,AH.fh,AH.fh];exact sn k
theorem acw {d s ch:Addr}{F:bH}(x:St d F ((z,.bc .vl [])::f) Y)(k:∀b c e,St d F ((z,ij s ch b c)::(b,.list [])::(c,.list [])::f) e->Q .none e):a q .Ci [.ref z,.ref s,.ref ch] Q X Y:=by refine aZ ZP C ?_;w_up;refine Bf x (λY x=>Bf x (λY x=>?_) vr vr) vr vr;k_in;refine⟨bl,x.bw λb Y x=>km (x.aX 1 rfl) rfl λY x=>?_⟩;k_in;exact⟨bl,x.bw λc Y x=>km (x.aX 1 rfl) rfl λY x=>Bf x (λY x=>sn (k b c _ ((x.aX 2 rfl).aX 1 rfl))) vc vr⟩
theorem FT (b:Y p=some (ih c n du e d lk))(ec:Y c=some (fV f v))(k:Q (.bool false) Y):a false .Cf [.ref p,.int 4] Q X Y:=by
 refine aZ ZN C ?_;w_up;k_in;refine bx b rfl rfl (bx ec rfl rfl ?_);cases v with
 |cq t=>exact k
 |id j=>exact bx b rfl rfl (bx ec rfl rfl ⟨dc,aay C (n:=4) dc k⟩)
theorem Bg (b:Y p=some (ih c n du f d lk))(ec:Y c=some (fV g v))(k:Q (.bool true) Y):a false .Cg [.ref p,.int 4] Q X Y:=by
 refine aZ ZO C ?_;w_up;k_in;refine bx b rfl rfl (bx ec rfl rfl ?_);have e:v.new.isNone=false:=by cases v<;>rfl
 exact B e (cX b rfl rfl dc (FT C b ec k))
end
theorem NJ (h:ch aV m ns l=some (r,o)):r.length<=ns.length+m:=
 FN (C:=λm ns O r=>r.length<=ns.length+m) (λO O O=>gn _ _) (λm ns O t O O h=>aw h (by rw[bR,Nat.add_right_comm];exact dE _)) m ns l h
section
variable (C:Ck b){Q:PV->AH->Prop}
include C
theorem NK (k:∀a p,ay Y a->Y p=none->a p=some (ih c n du .none .none .none)->Q (.ref p) a)(h:autoParam (a6 .yV<g) aD):
  ∀z,Y z=none->a6 (Cl.gw .pg)<g/\b false (Cl.gw .pg) [.ref z,.ref c,.str n,.ref du] (λr Y=>r.iw (Q (.ref z) Y) False) X (Y.set z (.bc .pg [])):=
 λz e=>⟨h,acv C (AH.a9 ..) (by rw[AH.fh];exact k _ z (ay.set e _) e (AH.a9 ..))⟩
variable {F:bH}(x:St d F ((s,bZ d)::f) Y)(r:Rf A L F)
theorem acx (x:St d F ((s,bZ d)::f) Y)(r:Rf A L F)(l:Y t=some (ij s chs pl tk))(ec:Y c=some (fV n v))(D:iL n)(i:∀u,v=.cq u->iL u)
  (G:∀m a p du,pn (bt A L) n v=some m->ay Y a->Y p=none->a p=some (ih c m du .none .none .none)->Q (.ref p) a) (M:pn (bt A L) n v=none->∀a,ay Y a->X .jx (.str n) a):b false .Cj [.ref t,.ref c] Q X Y:=by
 obtain⟨U,O,N,O,O⟩:=id D;refine aZ ZQ C ?_;w_up;refine ee (ke (M1 C U N λcN g=>?_) (e1 (va vr ec)));have ec:=g _ _ ec;have l:=g _ _ l;have x:=x.ext g;cases v with
 |cq u=>obtain⟨I,O,ru,O,O⟩:=i u rfl;refine lq (λK k=>dK k (tv (va vr ec))) (ee (ke (M1 C I ru λH j=>sk ?_) (e1 (va vr ec))));have ec:=j _ _ ec;refine lq (λK k=>dK k (ta (tZ (tv (va vr ec)) (λh=>by injection h)))) ?_;k_in;exact⟨rfl,bx ec rfl rfl ⟨bl,λdu i=>NK C λa p e w q=>G n a p du rfl (((g.trans j).trans (ay.set i _)).trans e) ((g.trans j).none ((ay.set i _).none w)) q⟩⟩
 |id k=>refine gh (λK k=>dK k (tv (va vr ec))) (gh (λK k=>dK k (ta (xy (tq (vq (va vr ec) vc)) (tZ (tq (vq (vf (w:=.int 4) (Internal.e1 (va vr ec)) rfl rfl) (va (va vr l) (x.o 0 rfl)))) (λh=>by injection h))))) (sk (sk (gh (λK k=>dK k (ta (xy (tv (va vr ec)) (xy (EX (b:=true) (tv (va vr ec))) t0)))) (sk (sc (c8 (xX C x r D (λns o H z h y=>?_) λe H j=>M (by unfold pn;refine B (aH dz) (B e ?_);rfl) H (g.trans j)) (va vr l) (x.o 0 rfl) (e1 (va vr ec)))))))));refine gm rfl rfl (bl) (bl) (tn ?_);have e2:=y.o 0 rfl;have J:=Bb (sd _ _) h;k_in;exact⟨rfl,aE (xY e2 J) (Ft e2 (by rw[aW];exact bL (aw (NJ h) (bl))) rfl λdu i=>NK C λa p e w q=>G (ns.getLastD []) a p du (by unfold pn;refine B (aH dz) (B h ?_);rfl) (((g.trans y.ext).trans (ay.set i _)).trans e) ((g.trans y.ext).none ((ay.set i _).none w)) q)⟩
theorem acy (g:Y z=some (.list [.ref p]))(e:Y p=some (ih c n du .none .none .none))(t:∀i y,ay Y i->Y y=none->i y=some (.list [.ref p])->Q (.ref y) i):b false .yU [.ref z] Q X Y:=by refine aZ ZX C ?_;w_up;k_in;refine λH=>(Nw.refl Y).bw λU J x e1=>⟨bl,?_⟩;have g:=e1 _ _ g;have e:=e1 _ _ e;refine dX λK a=>xA (cQ g (a _ _ _ (nU λK h=>⟨bl,?_⟩))) vr;clear a;k_in;refine nH (x.o 0 rfl) (aS rfl rfl (bx e rfl rfl ⟨cI _,x.bw λD M x e2=>nI (x.o 1 rfl) ⟨rfl,⟨bl,x.bw λG N x j=>xu (x.o 1 rfl) (x.o 0 rfl) (bl) (x.bw λm j8 x k=>?_)⟩⟩⟩));have l:=x.o 3 rfl;refine bx (k _ _ (j _ _ (e2 _ _ e))) rfl rfl (jh l (aS rfl (cI _) (λq=>?_)));have x:=(x.aX 3 rfl).dt (.dict q [(.str n,.ref m)]);refine sn (h _ _ (NG (k _ _ (j _ _ (e2 _ _ g))) l) (tn ?_));clear h;k_in;refine⟨cI _,x.bw λu oH x v=>⟨bl,dX λK a=>?_⟩⟩;z_go;refine⟨rfl,rx (x.o 1 rfl) (ys:=[.str n]) rfl (bl) (x.bw λI DK x w=>cQ (x.o 0 rfl) (a _ _ _ (nU λK h=>⟨bl,?_⟩)))⟩;clear a;refine ee (qe ?_ vr (x.o 1 rfl) (Internal.e1 (vi vr vr (gQ (x.o 2 rfl) rfl ((oW PV.ref [(n,m)] n).trans (by rw[d0,ej];rfl))))));refine oP (x.o 3 rfl) (aS (x.ne (i:=1) (j:=3) rfl rfl dc) (bl) ?_);have x:=(x.aX 1 rfl).dt (.list [.ref p]);exact sn (h _ _ (x.o 1 rfl) (tn (ie (t _ u x.ext (x.ob _ bP).2 (x.o 0 rfl)) vr)))
end
theorem acz:Un.all (λm=>rI m&&(Nat.ble (qk m).length 10&&(qk m).all λf=>!Un.contains f))=true:=by kernel_rfl
inductive acA (m:Bs):Prop
 |mk (b:nQ m) (a:(qk m).length<=10) (c:∀f∈qk m,f∉Un)
theorem ux (h:m∈Un):acA m:=by have:=bI.mp acz m h;exact⟨nR (V this).1,Nat.le_of_ble_eq_true (V (V this).2).1,λf a b=>by have:=bI.mp (V (V this).2).2 f a;rw[i6.mpr b] at this;injection this⟩
theorem NL {a:Type}{L:List (Bs×a)}(h:k∉L.map (·.1)):L.lookup k=none:=xR λy m q=>h (q▸List.mem_map.mpr (aQ y m rfl))
inductive x7 (d b:Addr)(F:bH)(c:iV)(m:Nat)(Y:AH):Prop
 |mk (a:Nat) (E:List (Bs×Unit)) (x:St d F ((b,.dict a (kE E))::c) Y) (f:∀k∈E.map (·.1),k∉Un) (e:E.length+m<=300)
theorem x7.dA {F:bH}(j:x7 d a F p (m+1) Y)(h:f∉Un){K:AH->Prop}(k:∀b,x7 d a F p m b->K b):qL Y a (.str f) (.bool true) K:=by
 obtain⟨r,E,x,n,s⟩:=j;refine jh (x.o 0 rfl) (aS (ig _ _ _) ?_ (λe=>k _ ?_))
 ·rw[Bc];exact bL (vo (by assumption) dc)
 ·rw[NF]
  refine⟨e,bg E f (),x.dt _,λk g=>(ai (bJ.mp g) λy i c=>az c ?_),aw (n4 (xE E f ()) m) (sr (by assumption))⟩;rcases Fb i with q|⟨z,l,q⟩
  ·exact B q h
  ·exact az q (n _ (bJ.mpr (aQ z l rfl)))
theorem NM (k:Bs)(v:PV):el [(.str k,v)] (.str k)=some v:=(oW id [(k,v)] k).trans (by rw[List.lookup_cons,beq_self_eq_true];rfl)
theorem acB (v:PV)(h:f≠k):el [(.str k,v)] (.str f)=none:=(oW id [(k,v)] f).trans (by refine B List.lookup_cons (B (beq_eq_false_iff_ne.mpr h) ?_);rfl)
theorem NN {f:Bs}(h:f∉D.map (·.1)):fw (kE D) (.str f)=false:=(FF _ D f).trans (by refine B (NL h) ?_;rfl)
theorem FU:∀l:List a,l.filterMap (λO=>(none:Option b))=[]
 |[]=>rfl
 |_::r=>FU r
section
variable (C:Ck a){F:bH}
include C
theorem acC (x:St d F ((s,bZ d)::(t,ij s N l tk)::(l,.list [.ref p])::(p,ih c m du .none .none .none)::(c,fV n v)::τ) Y)(r:Rf A L F)(nk:fi F)(hm:m∈Un)(kk:∀g,St d F ((s,bZ d)::(t,ij s N l tk)::(l,.list [.ref p])::(p,ih c m du .none .none .none)::(c,fV n v)::τ) g->Q .none g):a false .Cm [.ref t] Q X Y:=by
 refine aZ ZR C ?_;w_up;refine t8 ?_ (va (va vr (x.o 1 rfl)) (x.o 0 rfl));k_in;refine λep0=>x.bw λG Y x=>⟨bl,dX λK b=>t7 (cQ (x.o 3 rfl) (b _ _ _ (nU λK i=>⟨bl,?_⟩))) (va vr (x.o 2 rfl))⟩;clear b;refine gh (λK k=>by z_go;exact bx (x.o 4 rfl) rfl rfl (aE (lh (x.o 0 rfl) rfl) k)) (sk ?_);k_in;refine cX (x.o 4 rfl) rfl rfl dc (Bg C (x.o 4 rfl) (x.o 5 rfl) (bx (x.o 4 rfl) rfl rfl (jh (x.o 0 rfl) (aS rfl (cI _) (λrR=>?_)))));have x:=x.dt (.dict rR [(.str m,.bool true)]);refine sn (i _ _ (x.o 3 rfl) (tn ?_));clear i;k_in;refine λBh=>x.bw λH Y x=>⟨bl,dX λK b=>c8 (acm C (x.aX 2 rfl) r nk λY zl ls x hl x6=>cQ (x.o 0 rfl) (b _ _ _ ?_)) (va vr (x.o 3 rfl)) (x.o 2 rfl) e0⟩;clear b;refine eu (ι:=Option PV) .str (λy=>L1 (.ref t) (L1 (.int 4) (L1 (.ref G) (L1 (.ref p) (L1 (.ref H) (Lo y (L0 (L0 (L0 (L0 (L0 []))))))))))) (λr g=>rO d H s F ((zl,.list (ls.map .str))::(G,.dict rR [(.str m,.bool true)])::(t,ij s N l tk)::(l,.list [.ref p])::(p,ih c m du .none .none .none)::(c,fV n v)::τ) g/\∀n∈r,n∈Un) (λO O=>False)
  (λf r y g K j i O=>?_) (λO O j=>(by refine Ka j λacD O=>?_;obtain⟨O,O,x,O⟩:=acD;exact x.o 2 rfl)) (λy g j=>?_) (λO O O f=>f.elim) ls none Y ⟨⟨Bh,[],(x.aX 1 rfl).aX 2 rfl,⟨o7,(by intros;contradiction)⟩⟩,x6⟩
 ·refine Ka j λj u=>⟨bl,?_⟩
  k_in;exact j.dA (u f bP) λo ep es ed j=>sn (i _ _ ⟨j,λy m=>u y (cn _ m)⟩)
 refine Ka j λacE O=>?_;obtain⟨NO,D,x,h⟩:=acE;refine tn ?_;k_in;refine λNP=>x.bw λM Y x=>⟨bl,dX λK b=>?_⟩;z_go;have hf:=h.dN;refine⟨rfl,rx (x.o 1 rfl) (by exact B (show(kE D).map (·.1)=(D.map (·.1)).map .str from A6 _ D) (xO _)) (by rw[Bc];exact gG (by assumption) dc) (x.bw λz1 Y x=>aS rfl rfl (rx (x.o 5 rfl) (ys:=[.str m]) rfl (bl) (x.bw λz2 Y x=>cQ (x.o 0 rfl) ⟨bl,ib some (x.o 0 rfl) [.str m] [] (λv hv K k=>?_) ?_⟩)))⟩
 ·rw[eR.mp hv] at k⊢
  exact⟨bl,dB rfl (aE (gQ (x.o 6 rfl) rfl (NM _ _)) k)⟩
 have lk:(dS (D.map (·.1))).length<=18:=by rw[(iR _).length_eq,aW];exact hf
 have hu:∀k∈dS (D.map (·.1))++[m],k∈Un:=λk hk=>by
  rcases hG.mp hk with hk|hk
  ·obtain⟨O,un⟩:=h;exact un k ((iR _).mem_iff.mp hk)
  ·exact B (eR.mp hk) hm
 generalize dS (D.map (·.1))=z at x lk hu;refine⟨bl,x.bw λz3 Y x=>xu (x.o 2 rfl) (x.o 0 rfl) (by rw[bR,aW];exact bL (by show _+1<=_;exact gG (by assumption) dc)) (x.bw λz4 Y x=>cQ (x.o 0 rfl) (b _ _ _ ?_))⟩;clear b;have x:St d F ((M,.dict NP (kE []))::(z4,.list ((z++[m]).map .str))::(H,.dict NO (kE D))::(s,bZ d)::(G,.dict rR [(.str m,.bool true)])::(t,ij s N l tk)::(l,.list [.ref p])::(p,ih c m du .none .none .none)::(c,fV n v)::τ) Y:=by exact B cF (((((((((x.aX 1 rfl).drop).aX 1 rfl).drop).aX 1 rfl).drop).aX 4 rfl).drop).aX 1 rfl)
 refine B (show z.map PV.str++([]++List.filterMap some [PV.str m])=(z++[m]).map .str by rw[cF];rfl) ?_;have hn:(z++[m]).length<=19:=by exact B bR (fZ lk)
 refine eu (ι:=Option PV×Option PV) .str (λv=>L1 (.ref t) (L1 (.int 4) (L1 (.ref G) (L1 (.ref p) (L1 (.ref H) (Lo v.1 (L1 (.ref M) (Lo v.2 (L0 (L0 (L0 [])))))))))))
  (λr g=>x7 d M F ((z4,.list ((z++[m]).map .str))::(H,.dict NO (kE D))::(s,bZ d)::(G,.dict rR [(.str m,.bool true)])::(t,ij s N l tk)::(l,.list [.ref p])::(p,ih c m du .none .none .none)::(c,fV n v)::τ) (10*r.length) g/\∀k∈r,k∈Un) (λO O=>False)
  (λk r v g K j i O=>?_) (λO O j=>(by refine Ka j λacF O=>?_;obtain⟨O,O,x,O,O⟩:=acF;exact x.o 1 rfl)) (λv g j=>?_) (λO O O f=>f.elim) (z++[m]) (y,none) Y ⟨⟨NP,[],x,(by intros;contradiction),by show 0+_<=300;lia⟩,hu⟩
 ·refine Ka j λacG u=>?_;obtain⟨eo,E,x,J,dN⟩:=acG
  obtain⟨fn,fl,fo⟩:=ux (u k bP);refine⟨bl,dX λK b=>ke (M3 C fn λcN zq e hz U=>cQ U (b _ _ _ ?_)) (e1 vr)⟩;clear b;have x:=(x.oS e hz U).aX 1 rfl;refine eu (ι:=Option PV) .str (λw=>L1 (.ref t) (L1 (.int 4) (L1 (.ref G) (L1 (.ref p) (L1 (.ref H) (L1 (.str k) (L1 (.ref M) (Lo w (L0 (L0 (L0 [])))))))))))
   (λr' g=>x7 d M F ((zq,.list ((qk k).map .str))::_) (10*r.length+r'.length) g/\∀k∈r',k∉Un) (λO O=>False)
   (λf r' w g K j i O=>?_) (λO O j=>(by refine Ka j λacH O=>?_;obtain⟨O,O,x,O,O⟩:=acH;exact x.o 1 rfl)) (λw g j=>?_) (λO O O f=>f.elim) (qk k) v.2 cN ⟨⟨eo,E,x,J,by rw[e8] at dN;lia⟩,fo⟩
  ·refine Ka j λj u=>⟨bl,?_⟩
   k_in;exact j.dA (m:=10*r.length+r'.length) (u f bP) λg j=>sn (i _ _ ⟨j,λy m=>u y (cn _ m)⟩)
  ·refine Ka j λacI O=>?_;obtain⟨eo,E,x,J,dN⟩:=acI
   exact tn (sn (i (_,_) _ ⟨⟨eo,E,(x.aX 1 rfl).drop,J,dN⟩,λy m=>u y (cn _ m)⟩))
 refine Ka j λacJ O=>?_;obtain⟨eo,E,x,J,dN⟩:=acJ;refine tn (dX λK b=>?_);z_go;refine⟨rfl,rx (x.o 4 rfl) (ys:=[.str m]) rfl (bl) (x.bw λz5 Y x=>cQ (x.o 0 rfl) (b _ _ _ (nU λK i=>⟨bl,?_⟩)))⟩;clear b;z_go;obtain⟨O,un⟩:=h;obtain⟨fn,O,fo⟩:=ux hm;refine fR λK' kt b=>?_;z_go;refine aE (br (Option.map not) (lh (x.o 3 rfl) (ig _ _ _))) ?_;cases e:fw (kE D) (.str m) with
 |true=>exact b _ (sk (sn (i _ _ (x.o 0 rfl) (tn (sn (kk _ ((x.drop.drop.drop.drop.aX 1 rfl).drop)))))))
 |false=>
  refine kt _ ?_;k_in;refine aS rfl dc (M3 C fn λcN zq e1 hz U=>?_);have x:=x.ext e1;refine cQ U ⟨by rw[aW];exact bL (aw (by assumption) dc),ib (λO=>none) U _ [] (λv hv K k=>?_) ?_⟩
  ·refine ai (bJ.mp hv) λf mf acK=>?_;refine az acK ?_
   have nf:=fo f mf;exact⟨bl,dB rfl (aE (lh (x.o 3 rfl) (ig _ _ _)) (B (NN λq=>nf (un f q)) (gW rfl (nH (x.o 5 rfl) (aS rfl rfl (nI (x.o 5 rfl) ⟨rfl,B (acB _ λq=>nf (by rw[q];exact hm)) k⟩))))))⟩
  rw[gH,show((qk m).map PV.str).filterMap (λO=>none)=([]:List PV) from FU _];refine⟨cI _,x.bw λz7 Y x=>⟨bl,tY (λK k=>?_) λbX x2=>?_⟩⟩
  ·z_go
   refine⟨cI _,λz8 I=>aE (um (fg I (x.o 0 rfl)) (AH.a9 ..) λq=>nn (q▸I) (x.o 0 rfl)) ?_⟩;have k:=k _ (ay.set I (.list []));refine gW rfl (aE (gQ (fg I (x.o 6 rfl)) rfl (NM _ _)) ?_);z_go;exact aE (lh (fg I (x.o 2 rfl)) (ig _ _ _)) (B (NN λq=>J m q hm) k)
  ·have x:=x.ext x2
   exact sk (sk (sn (i _ _ (x.o 1 rfl) (tn (sn (kk _ (x.drop.drop.drop.drop.drop.aX 1 rfl).drop))))))
end
theorem x8 (h:m∈Un):gp m∈dO/\gp m++cz∈dO:=⟨List.mem_flatMap.mpr (aQ m (List.mem_cons_of_mem _ h) List.mem_cons_self),List.mem_flatMap.mpr (aQ m (List.mem_cons_of_mem _ h) (List.mem_cons_of_mem _ List.mem_cons_self))⟩
section
variable (C:Ck a){F:bH}
include C
theorem acL (x:St d F ((s,bZ d)::(t,ij s i y c)::(c,.list [])::A) Y)(f:m∈Un)(n:F (gp m++cz)=none)(v:∀g l,St d (di F (gp m++cz) []) ((l,fD d (gp m) true)::(s,bZ d)::(t,ij s i y c)::(c,.list [.ref l])::A) g->Q (.ref l) g):a false .Cn [.ref t,.str m,.bool true] Q X Y:=by refine Ka (x8 f) λe p=>?_;obtain⟨⟨O,w,h,O,O⟩,O,O⟩:=ux f;refine aZ ZS C ?_;w_up;refine mu (c8 (qm C (x.o 0 rfl) rfl rfl h w λD z=>⟨bl,?_⟩) (va vr (x.o 1 rfl)) (x.o 0 rfl) (e1 vr));have x:=x.ext z;k_in;refine⟨rfl,bx (x.o 1 rfl) rfl rfl (bx (x.o 0 rfl) rfl rfl λl r=>⟨dc,Fh C (x.new r (.bc .oa [])) (qj e).2 λY x=>⟨bl,fR λK H u=>?_⟩⟩)⟩;z_go;refine bx (x.o 2 rfl) rfl rfl (bx (x.o 1 rfl) rfl rfl (eJ x.dk λO O j=>cX j rfl rfl dc (AY C x λb q=>?_)));have k:=q e;refine B k ?_;refine⟨dc,Fj C x p n λY x=>u _ (sk (ee (qe ?_ (va vr (x.o 2 rfl)) (x.o 3 rfl) (e1 vr))))⟩;refine⟨cI _,ie (v _ l ?_) vr⟩;exact((((x.aX 3 rfl).dt (.list [.ref l])).aX 3 rfl).aX 3 rfl).aX 3 rfl
theorem acM (x:St d F ((p,ih c m du w f lk)::(s,bZ d)::(t,ij s g i j)::(c,fV n v)::u) Y)(r:Rf A L F)(b:iL m)(h:∀e o,St d F ((p,ih c m du (ov o) f lk)::(s,bZ d)::(t,ij s g i j)::(c,fV n v)::u) e->Q .none e):a false .Co [.ref t,.ref p] Q X Y:=by refine aZ ZT C ?_;w_up;k_in;refine bx (x.o 2 rfl) rfl rfl (bx (x.o 0 rfl) rfl rfl (bx (x.o 3 rfl) rfl rfl (jt (bl) rfl rfl (bl) (bl) (mu (c8 (xW C (x.aX 1 rfl) r b λy l=>⟨bl,?_⟩) vr (x.o 1 rfl) (e1 (va vr (x.o 0 rfl))))))));have x:=x.ext l;k_in;refine fA (x.o 1 rfl) rfl rfl (bx (x.o 0 rfl) rfl rfl ⟨dc,NB C (x.aX 1 rfl) r b λns o H O q z=>aE rfl (km (x.ext q) rfl λY x=>lq (λK k=>dK k (tq (vq vr vc))) (t8 (sk (gh (λK k=>dK k (EX (b:=true) (tr vr))) (sk (sn (h _ o x))))) vc))⟩)
theorem acN (x:St d F ((p,ih c m du w .none (.ref l))::(l,fD d (gp m) true)::(s,bZ d)::(t,ij s y U I)::(c,fV n v)::N) Y)(H:m∈Un)(D:v.ok)(r:Rf A L F)(g:∀i j,St d (di F (gp m++cz) v.fF) ((p,ih c m du w j (.ref l))::(l,fD d (gp m) true)::(s,bZ d)::(t,ij s y U I)::(c,fV n v)::N) i->Q .none i):a false .Cp [.ref t,.ref p] Q X Y:=by
 refine Ka (x8 H) λO e=>aZ ZU C ?_;w_up;cases D with
 |id h=>rename_i k;refine gh (λK k=>dK k (tv (va (va vr (x.o 0 rfl)) (x.o 4 rfl)))) ?_;k_in;exact bx (x.o 0 rfl) rfl rfl (fA (x.o 1 rfl) rfl rfl (bx (x.o 0 rfl) rfl rfl (bx (x.o 4 rfl) rfl rfl ⟨dc,abG C (bl) (A5 h) λM b=>⟨dc,Fm C ((x.ext b).aX 1 rfl) e (bl) λY x=>(Bf (x.aX 1 rfl) (λY x=>sk (sn (g _ _ x))) (va (va vr (x.o 1 rfl)) (x.o 4 rfl)) vr)⟩⟩)))
 |cq h=>rename_i u;have f:=xV (fX _ h:u∈Na);obtain⟨⟨O,G,q,O,O⟩,O,O,O,O⟩:=id f;refine lq (λK k=>dK k (tv (va (va vr (x.o 0 rfl)) (x.o 4 rfl)))) ?_;k_in;refine bx (x.o 0 rfl) rfl rfl (fA (x.o 1 rfl) rfl rfl (bx (x.o 0 rfl) rfl rfl (bx (x.o 4 rfl) rfl rfl ⟨dc,abH C G q λM b=>⟨dc,Fm C ((x.ext b).aX 1 rfl) e (by refine B bR (B bR ?_);show 5+u.length+1<=_;exact oe (by assumption) dc) λY x=>?_⟩⟩)));k_in;refine bx (x.o 3 rfl) rfl rfl (fA (x.o 2 rfl) rfl rfl (bx (x.o 1 rfl) rfl rfl (bx (x.o 4 rfl) rfl rfl ⟨dc,NB C (x.aX 2 rfl) (r.jw m _) f λns o bX O J z=>aE rfl (km ((x.ext J).aX 1 rfl) rfl λY x=>sk (sn (g _ _ x)))⟩)))
end
inductive uy (n:Bs)(v:Vl):Prop
 |mk (b:iL n) (c:v.ok) (a:v.rQ=true->n∈Un)
section
variable (C:Ck a){F:bH}
include C
theorem acO (x:St d F ((s,bZ d)::(t,ij s D pl0 i)::(D,.list [.ref c])::(c,fV n v)::(i,.list [])::N) Y)(r:Rf A L F)(M:fi F)(h:uy n v)(hu:∀m,pn (bt A L) n v=some m->m∈Un/\iL m)
  (kk:∀m j p du l g bf U,pn (bt A L) n v=some m->St d (di (di F (gp m++cz) []) (gp m++cz) v.fF) ((p,ih c m du bf U (.ref l))::(l,fD d (gp m) true)::(s,bZ d)::(t,ij s D g i)::(c,fV n v)::(i,.list [.ref l])::(g,.list [.ref p])::N) j->Q .none j)
  (kx:pn (bt A L) n v=none->∀j,ay Y j->X .jx (.str n) j):a false .Cq [.ref t] Q X Y:=by
 obtain⟨hn,y,O⟩:=h;refine aZ ZV C ?_;w_up;k_in;refine bx (x.o 1 rfl) rfl rfl (bx (x.o 0 rfl) rfl rfl (jt (bl) rfl rfl (bl) (bl) ?_));k_in;refine⟨rfl,bx (x.o 1 rfl) rfl rfl (cQ (x.o 2 rfl) (aS (bl) (bl) (cX (x.o 1 rfl) rfl rfl dc (acx C x r (x.o 1 rfl) (x.o 3 rfl) hn (λu e=>?_) (λm cN p du I G hp ep=>?_) kx))))⟩
 ·cases y with
  |id O=>injection e
  |cq h=>injection e with e;subst e;exact xV (fX _ h)
 obtain⟨H,nm⟩:=hu m I;have x:=x.oS G hp ep;refine aS (x.o 3 rfl) (bl) (λz J=>⟨dc,acy C (AH.a9 ..) (fg J (x.o 0 rfl)) λbX g x2 wJ epl=>?_⟩);have x:=((x.ext (ay.set J _)).oS x2 wJ epl).aX 3 rfl;refine km x rfl λY x=>?_;have x:St d F ((s,bZ d)::(t,ij s D g i)::(g,.list [.ref p])::(p,ih c m du .none .none .none)::(c,fV n v)::(i,.list [])::N) Y:=((x.aX 3 rfl).aX 4 rfl).drop;refine ee (c8 (acC C x r M H λY x=>aat λK kt=>dX λK b=>t7 (cQ (x.o 2 rfl) (b _ _ _ (nU λK f=>⟨bl,?_⟩))) (va vr (x.o 1 rfl))) vr (x.o 1 rfl) e0);clear b;k_in;refine fA (x.o 1 rfl) rfl rfl (bx (x.o 3 rfl) rfl rfl (cX (x.o 3 rfl) rfl rfl dc (Bg C (x.o 3 rfl) (x.o 4 rfl) ⟨dc,acL C (((x.aX 5 rfl).aX 2 rfl).aX 2 rfl) H (M m H) λY l x=>km (x.aX 5 rfl) rfl λY x=>sn (f _ _ (x.o 5 rfl) (tn ?_))⟩)));clear f;refine tY (λK k=>?_) λY G=>sk ?_
 ·z_go
  refine⟨rfl,bx (x.o 3 rfl) rfl rfl (cQ (x.o 5 rfl) ⟨bl,ib (λO=>none) (x.o 5 rfl) [.ref p] [] (λv y K k=>?_) ⟨cI _,λz1 h1=>⟨cI _,λz2 w=>aE (um (fg w (AH.a9 ..)) (AH.a9 ..) λq=>?_) (k _ ((ay.set h1 _).trans (ay.set w _)))⟩⟩⟩)⟩
  ·exact B (eR.mp y) ⟨bl,dB rfl (cX (x.o 0 rfl) rfl rfl dc (FT C (x.o 0 rfl) (x.o 6 rfl) k))⟩
  ·rw[←q,AH.a9] at w;injection w
 have x:=x.ext G;have r:=r.jw m [];refine dX λK b=>t7 (cQ (x.o 5 rfl) (b _ _ _ (nU λK f=>⟨bl,?_⟩))) (va vr (x.o 3 rfl));clear b;refine ee (c8 (acM C ((((x.aX 6 rfl).aX 4 rfl).aX 4 rfl).aX 3 rfl) r nm λY o x=>sn (f _ _ (x.o 6 rfl) (tn ?_))) vr (x.o 3 rfl) (e1 vr));clear f;refine dX λK b=>t7 (cQ (x.o 6 rfl) (b _ _ _ (nU λK f=>⟨bl,?_⟩))) (va vr (x.o 2 rfl));clear b;refine lq (λK k=>nL (c8 (Bg C (x.o 0 rfl) (x.o 3 rfl) k) vr (x.o 0 rfl) (e1 vr))) (ee (c8 (acN C ((x.aX 4 rfl).aX 1 rfl) H y r λY U x=>sk (sn (f _ _ (x.o 6 rfl) (tn ?_)))) vr (x.o 2 rfl) (e1 vr)));clear f;refine t8 (sn (kt _ _ _ (gh (λK k=>dK k (EX (b:=true) (tr vr))) (sk (sn (kk m _ p du l g _ _ I x)))))) vc
end
theorem NQ {F:bH}(h:F k=none):di (iJ (di (di F k []) k o) k) p o=di F p o:=funext λq=>by
 refine(?_:(if q=p then some o else if q=k then none else if q=k then some o else if q=k then some [] else F q)=if q=p then some o else F q);by_cases e:q=p
 ·exact B (aG e) (B (aG e) rfl)
 ·refine B (aH e) (B (aH e) ?_)
  by_cases e2:q=k
  ·exact B (aG e2) (B e2 (B h rfl))
  ·exact B (aH e2) (B (aH e2) (B (aH e2) rfl))
theorem acQ (s:bA f e n k [dv] b)(C:Ck a)(d:Ss a a6 e q b ρ (cj Q) (h8 X) Y)(g:vs=[]∨vs=[dv])(h:mh n (k+1) (as++[dv])=ρ)(c:as.length=k):a q f (as++vs) Q X Y:=by
 subst h;rcases g with rfl|rfl
 ·exact aZ (j:=0) s C (by rw[eB];exact d) (by rw[eB,c,lI]) (cI _)
 ·exact aZ (j:=1) s C (by rw[show[dv].drop 1=[] from rfl,eB];exact d) (B bR (B c (o8 k 1))) (dE _)
theorem Bj:Un.all (λn=>!lr n&&!(n==c9))=true:=by kernel_rfl
theorem Rf.set {F:bH}(r:Rf A L F)(b:m∈Un)(f:v.ok):Rf (fU A m (some v)) L (di F (gp m) v.fF):=by
 obtain⟨c,d,j,lk⟩:=r;have key:∀n,n≠m->di F (gp m) v.fF (gp n)=F (gp n):=λn h=>aH λq=>h (rN q);refine⟨λn i g=>?_,λn u e=>?_,?_,lk⟩
 ·unfold fU
  by_cases q:n=m
  ·exact B (aG q) (B q (aG rfl))
  ·exact B (aH q) ((key n q).trans (c n i g))
 ·unfold fU at e
  by_cases q:n=m
  ·rw[aG q] at e;have e:=bo e;exact az e (B q ⟨b,f⟩)
  ·rw[aH q] at e;exact d n u e
 ·have a:=key c9 λq=>by have:=bI.mp Bj m b;rw[←q] at this;injection this
  cases j with
  |no h=>exact .no (a.trans h)
  |mk h l=>exact .mk (a.trans h) l
theorem ya (a:m∈Un):gp n++cz≠gp m:=λq=>by have h:=FL n;rw[Ba] at q;rw[rN q,cw (V (bI.mp Bj m a)).1] at h;injection h
theorem fi.set {F:bH}(a:fi F)(b:m∈Un)(o:Bs):fi (di F (gp m) o):=λn h=>(if_neg (ya b)).trans (a n h)
section
variable (C:Ck a){F:bH}
include C
theorem acR (x:St d F ((p,ih c m du A y (.ref l))::(l,fD d (gp m) true)::(s,bZ d)::(t,ij s H q r)::(c,fV n v)::(r,.list [.ref l])::(q,.list [.ref p])::w) Y)(u:m∈Un)(g:F (gp m++cz)=some o)
  (j:∀f,St d (di (iJ F (gp m++cz)) (gp m) o) ((s,bZ d)::w) f->Q .none f):a false .Cr [.ref t] Q X Y:=by
 refine Ka (x8 u) λh O=>aZ ZW C ?_;w_up;k_in;refine bx (x.o 3 rfl) rfl rfl (bx (x.o 2 rfl) rfl rfl (bx (x.o 3 rfl) rfl rfl (bx (x.o 2 rfl) rfl rfl (jt (bl) rfl rfl (bl) (bl) (dX λK b=>t7 (cQ (x.o 6 rfl) (b _ _ _ (nU λK e=>⟨bl,?_⟩))) (va vr (x.o 3 rfl)))))));clear b;refine lq (λK k=>nL (c8 (Bg C (x.o 0 rfl) (x.o 4 rfl) k) vr (x.o 0 rfl) (e1 vr))) (ee (c8 (MT C (x.aX 1 rfl) h g λY x=>sk (sn (e _ _ (x.o 6 rfl) (tn ?_)))) (va vr (x.o 0 rfl)) (x.o 1 rfl) e0));clear e;refine gh (λK k=>dK k (tq (vq (va vr (x.o 3 rfl)) vc))) (sk (dX λK b=>t7 (cQ (x.o 6 rfl) (b _ _ _ (nU λK e=>⟨bl,?_⟩))) (va vr (x.o 3 rfl))));clear b;refine gh (λK k=>nL (c8 (FT C (x.o 1 rfl) (x.o 4 rfl) k) vr (x.o 1 rfl) (e1 vr))) (sk (sn (e _ _ (x.o 6 rfl) (tn ?_))));clear e;k_in;refine⟨cI _,λz i=>?_⟩;have x:=(x.ext (ay.set i (.list []))).aX 3 rfl;exact ur (x.o 0 rfl) rfl (sn (j _ (((((x.dt _).drop.drop.drop.aX 1 rfl).drop.aX 1 rfl).drop.aX 1 rfl).drop)))
theorem FV (x:St d F ((s,bZ d)::(f,.list [.ref c])::(c,fV n v)::g) Y)(r:Rf A L F)(q:fi F)(h:uy n v)(j:∀m,pn (bt A L) n v=some m->m∈Un/\iL m)
  (G:∀m b,pn (bt A L) n v=some m->St d (di F (gp m) v.fF) ((s,bZ d)::g) b->Q .none b) (U:pn (bt A L) n v=none->∀b,St d F ((s,bZ d)::g) b->X .jx (.str n) b) (D:z=[]∨z=[.none]):a false .jV (.ref s::.ref f::z) Q X Y:=by
 refine acQ (as:=[.ref s,.ref f]) (dv:=.none) ZH C (ρ:=L1 (.ref s) (L1 (.ref f) (L1 .none (L0 [])))) ?_ D rfl rfl;w_up;k_in;refine⟨rfl,λt H=>⟨dc,acw C (x.new H (.bc .vl [])) λu w Y x=>⟨bl,?_⟩⟩⟩;have x:St d F ((s,bZ d)::(t,ij s f u w)::(f,.list [.ref c])::(c,fV n v)::(w,.list [])::g) Y:=((((((x.aX 1 rfl).drop.aX 1 rfl).aX 4 rfl).aX 4 rfl).aX 3 rfl).aX 4 rfl);refine ee (c8 (acO C x r q h j (λm Y p du l u M J i x=>Ka (j m i) λy N=>ee (c8 (acR C x y (aG rfl) λY x=>?_) vr (x.o 3 rfl) e0)) λe b I=>U e _ (((((x.ext I).aX 1 rfl).drop.aX 1 rfl).drop.aX 1 rfl).drop.aX 1 rfl).drop) vr (x.o 1 rfl) e0);rw[NQ (q m y)] at x;exact gh (λK k=>dK k (ta (tZ (tq (vq (va vr (x.o 0 rfl)) vc)) (λh=>by injection h)))) (sk (sn (G m _ i x)))
theorem FW (x:St d F ((s,bZ d)::p) Y)(r:Rf A L F)(l:fi F)(f:iL n)(h:n∈Un)(j:u∈Nt)(k:∀b,St d (di F (gp n) (Vl.cq u).fF) ((s,bZ d)::p) b->Q .none b):a false .Cb [.ref s,.str n,.str u] Q X Y:=by refine aZ (j:=0) ZI C ?_;w_up;k_in;refine fA (x.o 0 rfl) rfl rfl ⟨rfl,λc i=>⟨dc,FR C (v:=.cq u) (AH.a9 ..) rfl ⟨bl,λz g=>⟨dc,?_⟩⟩⟩⟩;rw[AH.fh] at g⊢;have x:=(((x.new i (fV n (.cq u))).new g (.list [.ref c])).aX 2 rfl);exact FV C x r l ⟨f,.cq j,λO=>h⟩ (λm e=>by have e:=bo e;exact az e ⟨h,f⟩) (λm b e x=>by have e:=bo e;subst e;exact sn (k _ x)) (λe=>by injection e) (.inr rfl)
end
theorem acS (e:Y a=some (.list (b.map .bytes)))(h:(gI s b).length<=aI)(k:Q (.bytes (gI s b)) Y):hS .join (.bytes s) [.ref a] Q Y:=oP e (aE (EZ _) ⟨h,k⟩)
section
variable (C:Ck d)
include C
theorem acT (t:Y D=some (.dict ep (fG P)))(q:mD P Y)(ok:Nl P)(k:∀h,ay Y h->Q (.bytes (jm (sorted P))) h):d false .vH [.ref D] Q X Y:=by
 obtain⟨nd,J,ok⟩:=ok;obtain⟨q⟩:=q;refine aZ Zp C ?_;w_up;k_in;refine iG (bl) (iG (bl) ⟨bl,(Nw.refl Y).bw λz cN x x1=>⟨bl,?_⟩⟩);have H:(dS (P.map (·.1))).length<=40:=by rw[(iR _).length_eq,aW];exact J
 refine dX λK A=>?_;z_go;refine⟨rfl,rx (x1 _ _ t) (by unfold fG;rw[A6];exact xO _) (by unfold fG eY;rw[aW];exact gG bW dc) (x.bw λz2 bX x O=>cQ (x.o 0 rfl) (A _ _ _ ?_))⟩;clear A;have x:=x.aX 1 rfl;have l:∀n∈dS (P.map (·.1)),∃k a,P.lookup n=some (k,a)/\k<16/\(∀c∈n,c<256)/\n.length<=100/\Y a=some (iX n k):=λn m=>by exact ai (bJ.mp ((iR _).mem_iff.mp m)) λy s G=>az G (dD (ok y s) λk1 k2 k3=>gE y.2.1 y.2.2 (jK nd s) (cZ k1 k2 k3 (q y s)))
 unfold sorted at k;generalize dS (P.map (·.1))=ns at x H l k;refine eu (ι:=Option PV) .str (λy=>L1 (.ref D) (L1 (.ref z) (Lo y []))) (λr h=>∃g,ns=g++r/\Nw Y [(z,.list ((uu::g.map λn=>iK n (nT P n)).map .bytes)),(z2,.list (ns.map .str))] h) (λO O=>False)
  (λn r y h K j N O=>?_) (λO O j=>(ai j λO O x=>x.o 1 rfl)) (λy h j=>?_) (λO O O f=>f.elim) ns none bX (aQ [] rfl x)
 ·refine ai j λg e x=>fj (l n (B e (fX _ bP))) λw a u p=>lz p λM L v i=>?_
  have i:=x.ext _ _ i;have I:nT P n=w:=by unfold nT;refine B u ?_;rfl
  refine⟨bl,?_⟩;k_in;refine lb (x.o 0 rfl) (aS rfl rfl (aE (gQ (x.ext _ _ t) (ig _ _ _) (by unfold fG;rw[oW,u];rfl)) (cX i rfl rfl dc (abL C i M L (aw v dc) λd8 x3=>?_))));have x:=x.on x3;refine lg (x.o 0 rfl) ⟨?_,sn (N _ _ (aQ (g++[n]) (by rw[e,e6];rfl) ?_))⟩
  ·rw[e,bR,e8] at H
   rw[aW,e8,aW];exact bL (OW bW dc)
  ·exact B (show(uu::(g++[n]).map λn=>iK n (nT P n)).map PV.bytes=(uu::g.map λn=>iK n (nT P n)).map .bytes++[.bytes (iK n w)] by rw[cF,←List.cons_append,cF,←I];rfl) (x.dt _)
 ·refine ai j λg e x=>?_
  rw[eB] at e;refine tn (qf (aaw (acS (x.o 0 rfl) ?_ ?_) vc (e1 vr)))
  ·rw[AL,List.flatten_cons,bR,List.length_flatten]
   have:=A0 (k:=110) (g.map λn=>iK n (nT P n)) λb m=>by refine ai (bJ.mp m) λn mn U=>az U (fj (l n (B e mn)) λO O O p=>lz p λO O v O=>?_);unfold iK;exact B bR (B bR (B bR ((oe bW dc):8+1+n.length+1<=110)))
   rw[aW,←e] at this;refine(?_:46+_<=aI);exact az e (Gw bW bW dc)
  ·rw[AL]
   have:=k _ x.ext;unfold jm at this;rw[List.flatMap_def,cV,e] at this;exact this
end
theorem acU {F:bH}(h:F k=none):iJ (iJ (di F k o) p) k=iJ F p:=funext λq=>by
 refine(?_:(if q=k then none else if q=p then none else if q=k then some o else F q)=if q=p then none else F q);by_cases e:q=k
 ·refine B (aG e) (B e (B h ?_));split<;>rfl
 ·exact B (aH e) (B (aH e) rfl)
theorem NR {F:bH}(h:F k=none):iJ (di F k o) k=F:=funext λq=>by
 refine(?_:(if q=k then none else if q=k then some o else F q)=F q);by_cases e:q=k
 ·exact B (aG e) (B e (B h rfl))
 ·exact B (aH e) (B (aH e) rfl)
theorem Rf.uf {F:bH}(r:Rf A L F)(i:m∈Un):Rf (fU A m none) L (iJ F (gp m)):=by
 obtain⟨b,c,g,lk⟩:=r;have key:∀n,n≠m->iJ F (gp m) (gp n)=F (gp n):=λn h=>aH λq=>h (rN q);refine⟨λn f d=>?_,λn u e=>?_,?_,lk⟩
 ·unfold fU
  by_cases q:n=m
  ·exact B (aG q) (B q (aG rfl))
  ·exact B (aH q) ((key n q).trans (b n f d))
 ·unfold fU at e
  by_cases q:n=m
  ·rw[aG q] at e;injection e
  ·rw[aH q] at e;exact c n u e
 ·have a:=key c9 λq=>by have:=bI.mp Bj m i;rw[←q] at this;injection this
  cases g with
  |no h=>exact .no (a.trans h)
  |mk h l=>exact .mk (a.trans h) l
theorem fi.uf {F:bH}(a:fi F)(p:Bs):fi (iJ F p):=λn h=>by show(if _ then none else F _)=none;refine B (a n h) ?_;split<;>rfl
theorem acV:dG Y .eq (.av [.str [105,100],.bytes b]) (.av [.str [105,100],.bytes b])=some true:=by refine((B (ej b:(b==b)=true) ?_):some ((([105,100]:Bs)==[105,100]&&((b==b)&&true))&&true)=_);rfl
inductive Sv (d s:Addr)(L:List (Bs×Nat))(aV:Lm)(a:iV)(A:Lm)(Y:AH):Prop
 |mk (F:bH) (x:St d F ((s,bZ d)::a) Y) (r:Rf A L F) (b:fi F) (c:F (gp c9++cz)=none) (e:bt A L=aV)
section
variable (C:Ck a)
include C
theorem acW (y:Sv d s L aV τ A Y)(f:n∈Un)(hn:iL n)(hk:L.lookup n=some k)(N:∀v,A n=some v->v=.id k)(G:∀I H,Sv d s L aV τ H I->(∀m v,H m=some v->A m=some v)->Q .none I):a false .Ce [.ref s,.str n,.bytes (cC k)] Q X Y:=by
 obtain⟨F,x,r,z,U,D⟩:=y;obtain⟨⟨O,t,g,O,O⟩,O,O,np,nl⟩:=id hn;refine Ka (x8 f) λhU hL=>?_;have w:=z n f;refine aZ ZK C ?_;w_up;k_in;refine⟨rfl,bx (x.o 0 rfl) rfl rfl (cX (x.o 0 rfl) rfl rfl dc (qm C (x.o 0 rfl) rfl rfl g t λcN x1 l hz=>⟨dc,Fh C ((x.ext x1).new hz (.bc .oa [])) (qj hU).2 λY x=>⟨bl,fR λK c p=>rA (ke (Fj C x hL w λY x=>c _ ?_) (e1 vr))⟩⟩))⟩;clear c p;have b:di F (gp n++cz) [] (gp n)=(A n).map Vl.fF:=by obtain⟨b,O,O,O⟩:=(r.jw n []);exact b n np nl
 have j:∀u,A n=some u->u.ok:=λu e=>by obtain⟨O,j,O,O⟩:=r;exact(j n u e).2
 refine fR λK c p=>?_;z_go;refine cX (x.o 1 rfl) rfl rfl dc (FE C (x.aX 1 rfl) g t b j λbX x2=>⟨bl,?_⟩);have x:=x.ext x2;cases i:A n with
 |none=>refine p _ (sk (ee (c8 (Fp C x (aG rfl) λY x=>sk (sn ?_)) vr (x.o 0 rfl) e0)));rw[NR w] at x;exact G _ A ⟨F,x.drop,r,z,U,D⟩ λO O h=>h
 |some v=>
  have M:=N v i;subst M;refine aE acV (c _ ?_);rw[i] at b;k_in;refine bx (x.o 1 rfl) rfl rfl (eJ x.dk λO O J=>fA J rfl rfl (cX (x.o 1 rfl) rfl rfl dc (qm C (x.o 1 rfl) rfl rfl g t λd8 x3=>⟨dc,MR C (x.ext x3) b λY x=>(sk (ee (c8 (Fp C x ((aH (Fg _)).trans (aG rfl)) λY x=>sk (sn ?_)) vr (x.o 0 rfl) e0)))⟩)));rw[acU w] at x;refine G _ (fU A n none) ⟨_,x.drop,r.uf f,z.uf _,(aH (ya f)).trans U,?_⟩ λm v h=>?_
  ·refine az D ?_
   funext m;unfold bt fU;by_cases q:m=n
   ·refine B (aG q) (B q (B i (B hk ?_)));rfl
   ·exact B (aH q) rfl
  ·unfold fU at h
   by_cases q:m=n
   ·rw[aG q] at h;injection h
   ·rw[aH q] at h;exact h
end
theorem NS:Un.all (λn=>Nat.ble n.length 100&&(!fE n||gA n false))=true:=by kernel_rfl
theorem acX (b:n∈Un)(e:fE n=true)(d:k<16):rL n k:=by have a:=bI.mp (bI.mp abN n b) k (ik.mpr d);have c:=(V (bI.mp NS n b)).2;rw[e] at c;exact⟨nR (V ((V (bI.mp xU n b)).1)).1,c,e,d,bG.mp (V a).1,bG.mp (V (V a).2).1,bG.mp (V (V (V a).2).2).1,bG.mp (V (V (V (V a).2).2).2).1,cw (V (V (V (V a).2).2).2).2⟩
inductive nW (A:Lm)(P:List gY):Prop
 |mk (a:(P.map (·.1)).Nodup) (ok:∀y∈P,y.1∈Un/\fE y.1=true/\A y.1=some (.id y.2.1)/\y.2.1<16)
theorem nW.dN (h:nW A P):P.length<=18:=by
 obtain⟨c,ok⟩:=h;have:=ud (L:=Un) c λk m=>by refine ai (bJ.mp m) λy b a=>?_;subst a;exact(ok y b).1
 rw[aW] at this;exact aw this (Nat.le_of_ble_eq_true cA)
theorem nW.acY (h:nW A P):Nl P:=by have dN:=h.dN;obtain⟨d,ok⟩:=h;refine⟨d,by exact aw (by assumption) dc,λy m=>(lz (ok y m) λa O O c=>?_)⟩;obtain⟨O,O,b,O,O⟩:=nR (V ((V (bI.mp xU y.1 a)).1)).1;exact⟨c,b,Nat.le_of_ble_eq_true (V (bI.mp NS y.1 a)).1⟩
theorem Bk {f:Bs->Nat}:∀l:List Bs,(l.map λn=>(n,f n)).lookup n=if n∈l then some (f n) else none
 |[]=>rfl
 |x::r=>by
  rw[c3,d0,Bk r];by_cases e:n=x
  ·rw[e,ej,aG bP]
  ·refine B (eA.mpr e) ?_
   by_cases m:n∈r
   ·exact B (aG m) (B (aG (cn _ m)) rfl)
   ·exact B (aH m) (B (aH λq=>(d4.mp q).elim e m) rfl)
theorem FX {A:Lm}(h:nW A P)(e:(sorted P).lookup n=some k):n∈Un/\fE n=true/\A n=some (.id k)/\k<16:=by
 unfold sorted at e;rw[Bk] at e;by_cases m:n∈dS (P.map (·.1))
 ·rw[aG m] at e
  refine ai (bJ.mp ((iR _).mem_iff.mp m)) λy a b=>?_;subst b;obtain⟨c,ok⟩:=h;have:nT P y.1=y.2.1:=by unfold nT;refine B (jK c a) ?_;rfl
  rw[this] at e;have e:=bo e;exact az e (ok y a)
 ·rw[aH m] at e;injection e
theorem acZ {A:Lm}(h:nW A P)(m:y∈P):(sorted P).lookup y.1=some y.2.1:=by obtain⟨a,O⟩:=h;unfold sorted;rw[Bk,aG ((iR _).mem_iff.mpr (bJ.mpr (aQ y m rfl)))];unfold nT;refine B (jK a m) ?_;rfl
theorem NT {A:Lm}(h:nW A P)(m:y∈sorted P):y.1∈Un/\fE y.1=true/\A y.1=some (.id y.2)/\y.2<16:=by refine FX h ?_;unfold sorted at m⊢;refine ai (bJ.mp m) λn b a=>az a ?_;rw[Bk,aG b]
theorem NU (h:nW A P):A7 (sorted P):=by
 have i:=h.dN;refine⟨?_,λy m=>?_,?_⟩
 ·unfold sorted;rw[aW,(iR _).length_eq,aW];exact aw (by assumption) dc
 ·exact lz (NT h m) λg f O c=>acX g f c
 ·obtain⟨d,O⟩:=h
  have e:(sorted P).map (·.1)=dS (P.map (·.1)):=by unfold sorted;exact B cV (sh _)
  exact B e ((List.Pairwise.and (R:=λa b=>a<=b) (S:=λa b=>a≠b) (HW _) ((iR _).nodup_iff.mpr d)).imp λ{a b} h=>Std.lt_of_le_of_ne h.1 h.2)
theorem yb (h:n∈Un):n≠c9/\lr n=false:=by have:=bI.mp Bj n h;exact⟨eA.mp (cw (V this).2),cw (V this).1⟩
def mE (ch:List (Bs×Nat)):List PV:=ch.map λy=>.av [.str y.1,.bytes (cC y.2)]
def FY (A:Lm) (ch:List (Bs×Nat)):Prop:=∀y∈ch,uv A y.1/\A y.1=some (.id y.2)
inductive PkJ (A:Lm)(d s l c e f:Addr)(b:Nat)(F:bH)(a:List Bs)(g:iV)(r:List Bs)(Y:AH):Prop
 |mk (ch:List (Bs×Nat)) (x:St d F ((e,.list (mE ch))::(f,.list (a.map .str))::(s,bZ d)::(c,.dict b [])::(l,fD d (gp c9) true)::g) Y) (h:ch.length+r.length<=a.length) (ok:FY A ch) (i:∀n∈r,uv A n)
inductive PmJ (A:Lm)(d s l b c:Addr)(F:bH)(e:iV)(ch r:List (Bs×Nat))(Y:AH):Prop
 |mk (a:Nat) (P:List gY) (x:St d F ((b,.dict a (fG P))::(c,.list (mE ch))::(s,bZ d)::(l,fD d (gp c9) true)::e) Y) (i:mD P Y) (h:nW A P) (all:∀y∈ch,y∈r∨y.1∈P.map (·.1)) (ok:FY A r)
inductive Bl (A aV:Lm)(d s l f c:Addr)(g:iV):aP->AH->Prop
 |mk (i j k m:Option PV) (ch:List (Bs×Nat)) (b:Bool) (F a:bH) (L:List (Bs×Nat)) (Y:AH) (x:St d F ((l,fD d (gp c9) b)::(c,.list (mE ch))::(s,bZ d)::g) Y)
  (h:if b=true then F (gp c9++cz)=some []/\iJ F (gp c9++cz)=a else F=a) (r:Rf A L a) (p:fi a) (q:a (gp c9++cz)=none) (e:bt A L=aV) (lk:∀y∈ch,L.lookup y.1=some y.2) (ok:FY A ch) (n:ch.length<=64):Bl A aV d s l f c g (L1 (.ref s) (L1 (.bool true) (L1 .none (L1 (.ref l) (L1 (.ref f) (L1 (.ref c) (L0 (Lo i (Lo j (Lo k (Lo m (L0 (L0 []))))))))))))) Y
theorem NV {v:b}(m:y∈bg L k v):y∈L∨y=(k,v):=by
 unfold bg at m;split at m
 ·refine ai (bJ.mp m) λz a e=>?_
  by_cases q:(z.1==k)=true
  ·rw[aG q] at e;exact az e (az (bG.mp q) (.inr rfl))
  ·rw[aH q] at e;exact .inl (e▸a)
 ·rcases hG.mp m with m|m
  ·exact .inl m
  ·exact .inr (eR.mp m)
theorem NW {a:Type}{L:List (Bs×a)}{j k:Bs}(c:(L.map (·.1)).Nodup){v:a}(h:j=k∨j∈L.map (·.1)):j∈(bg L k v).map (·.1):=by
 by_cases q:j∈(bg L k v).map (·.1)
 ·exact q
 ·have e:=NL q
  rw[kh] at e;rcases h with h|h
  ·rw[aG h] at e;injection e
  ·refine ai (bJ.mp h) λy m b=>?_;subst b
   rw[jK c m] at e;split at e<;>injection e
theorem ac2 (n:Bs):gp n++cz≠gp c9:=λq=>by have h:=FL n;rw[Ba] at q;rw[rN q] at h;injection h
theorem ac3 (h:n∈Un):gp n++cz≠gp c9++cz:=λq=>(yb h).1 (rN (List.append_cancel_right q))
theorem Rf.y2 {F:bH}(r:Rf A [] F)(h:nW A P):Rf A (sorted P) (di F (gp c9) (jm (sorted P))):=by obtain⟨b,c,O,O⟩:=r;exact⟨λn a d=>(aH λq=>a (rN q)).trans (b n a d),c,.mk (aG rfl) (NU h),λy m=>(NT h m).1⟩
theorem nY (h:n∈Un):iL n:=by have a:=(V (bI.mp xU n h)).1;exact⟨nR (V a).1,(V (V a).2).1,(V (V a).2).2,(yb h).1,(yb h).2⟩
theorem ac4 (C:Ck f){d l:Addr}(x:St d a ((l,fD d p b)::j) Y)(h:if b=true then a (p++cz)=some []/\iJ a (p++cz)=c else a=c)(k:∀e,St d c ((l,fD d p false)::j) e->Q .none e):f false .vE [.ref l] Q X Y:=by
 cases b with
 |true=>refine Ka ((aG rfl).mp h) λi g=>?_;subst g;exact Fp C x i k
 |false=>exact abc C x (k _ ((h:a=c)▸x))
section
variable (C:Ck a)
include C
theorem ac5 (y:Sv d s [] aV τ A Y)(kk:∀g G L v,Sv d s L aV τ G g->Q v g):a false .Cc [.ref s,.bool true] Q X Y:=by
 obtain⟨F,x,r,I,D,eV⟩:=y;refine aZ (j:=1) ZJ C ?_;w_up;have hL:gp c9++cz∈dO:=i6.mp (by kernel_rfl:dO.contains (gp c9++cz)=true);k_in;refine⟨rfl,bx (x.o 0 rfl) rfl rfl (fA (x.o 0 rfl) rfl rfl ⟨dc,qm C (n:=c9) (x.o 0 rfl) rfl rfl dc dc λcN x1 l H=>⟨dc,?_⟩⟩)⟩;refine Fh C ((x.ext x1).new H (.bc .oa [])) (qj FJ).2 λY x=>⟨bl,?_⟩;refine fR λK kt c=>rB (rA (ke (Fj C x hL D λY x=>c _ (sk ?_)) (e1 vr)));clear kt c;have r1:Rf A [] (di F (gp c9++cz) []):=r.jw c9 [];k_in;refine λep rd Mj=>⟨cI _,λM hzc=>jt (bl) rfl rfl (bl) (bl) ?_⟩;have x:=((x.new Mj (.dict ep [])).new hzc (.list [])).aX 3 rfl;refine aau (Bl A aV d s l rd M τ) (λK kt=>?_) λρ Y j=>?_
 ·obtain⟨O,O,pk,O⟩:=id r1
  refine dX λK c=>c8 (FK C x pk λcN zp P x1 O ez eP ii=>cQ ez (c _ _ _ ?_)) vr (x.o 0 rfl) e0;clear c;cases P with
  |cons O O=>injection eP
  |nil=>
  refine tn ?_;have x:=x.ext x1;refine dX λK c=>c8 (ND C x r1 (λn h=>(aH (ac3 h)).trans (I n h)) λbX zl ls x hl x6=>cQ (x.o 0 rfl) (c _ _ _ ?_)) vr (x.o 0 rfl) e0;clear c;refine eu (ι:=Option PV×Option PV) .str (λy=>L1 (.ref s) (L1 (.bool true) (L1 .none (L1 (.ref l) (L1 (.ref rd) (L1 (.ref M) (L0 (Lo y.1 (Lo y.2 (L0 (L0 (L0 (L0 []))))))))))))) (PkJ A d s l rd M zl ep (di F (gp c9++cz) []) ls τ) (λO O=>False)
   (λn rr y g K j N O=>?_) (λO O j=>(by obtain⟨O,x,O,O,O⟩:=j;exact x.o 1 rfl)) (λy g j=>?_) (λO O O f=>f.elim) ls (none,none) bX ⟨[],x.aX 2 rfl,by rw[yE,lI];exact dE _,nofun,x6⟩
  ·obtain⟨ch,x,dN,ok,rest⟩:=j
   have ln:=rest n bP;obtain⟨J,ro,ok1,fn,v,U⟩:=id ln;obtain⟨O,lnn,ann,O,O⟩:=id fn;have NX:=yb J;obtain⟨ha,hu,O,O⟩:=id r1;refine⟨bl,mu (c8 (FE C (x.aX 2 rfl) ann lnn (ha n NX.1 NX.2) (λu e=>(hu n u e).2) λd8 x3=>⟨bl,?_⟩) vr (x.o 2 rfl) (e1 vr))⟩;have x:=x.ext x3;rw[U];have NY:∀z∈rr,uv A z:=λz m=>rest z (cn _ m);rw[e8] at dN;cases v with
   |cq t=>exact gh (λK k=>dK k (ta (tZ (tq (vq (vi vr vc) vc)) nofun))) (sk (sn (N (_,_) _ ⟨ch,x,by exact ip (by assumption),ok,NY⟩)))
   |id k=>
    refine lq (λK k=>dK k (ta (xy (tq (vq (vi vr vc) vc)) (xy (ta (tZ (tr vr) nofun)) t0)))) (ee (qe ?_ vr (x.o 0 rfl) (e1 (vt (e2 vr (vi vr vc))))));refine⟨by unfold mE;rw[aW];exact bL (by exact Gu (by assumption) (by assumption) dc),sk (sn (N (_,_) _ ⟨ch++[(n,k)],?_,by refine B bR ?_;show _+1+_<=_;exact sr (by assumption),λz m=>?_,NY⟩))⟩
    ·exact B (show mE (ch++[(n,k)])=mE ch++[.av [.str n,.bytes (cC k)]] by unfold mE;rw[cF];rfl) (x.dt _)
    ·rcases hG.mp m with m|m
     ·exact ok z m
     ·exact B (eR.mp m) ⟨ln,U⟩
  ·obtain⟨ch,x,dN,ok,O⟩:=j
   refine tn (dX λK c=>xA (cQ (x.o 0 rfl) (c _ _ _ ?_)) vr);clear c;refine eu (ι:=Option PV×Option PV×Option PV×Option PV) (λy:Bs×Nat=>PV.av [.str y.1,.bytes (cC y.2)]) (λv=>L1 (.ref s) (L1 (.bool true) (L1 .none (L1 (.ref l) (L1 (.ref rd) (L1 (.ref M) (L0 (Lo v.1 (Lo v.2.1 (Lo v.2.2.1 (Lo v.2.2.2 (L0 (L0 []))))))))))))) (PmJ A d s l rd M (di F (gp c9++cz) []) τ ch) (λO O=>False)
    (λp rr v g K j N O=>?_) (λO O j=>(by obtain⟨O,O,x,O,O,O,O⟩:=j;exact x.o 1 rfl)) (λv g j=>?_) (λO O O f=>f.elim) ch (y.1,y.2,none,none) g ⟨ep,[],((x.aX 3 rfl).aX 2 rfl).drop,⟨nofun⟩,⟨o7,nofun⟩,λy m=>.inl m,ok⟩
   ·obtain⟨rR,P,x,i,h,all,ok⟩:=j
    refine gm rfl rfl (bl) (bl) ?_;k_in;refine⟨bl,?_⟩;k_in;refine⟨rfl,aE rfl (gR rfl λz H=>⟨dc,Nj C (AH.a9 ..) (.inr rfl) ?_⟩)⟩;rw[AH.fh];have ed:=fg (o:=iX p.1 p.2) H (x.o 0 rfl);have hf:=h.dN;refine jh ed (aS (ig _ _ _) ?_ (λBh=>?_))
    ·unfold fG eY;rw[aW];exact bL (by exact aw (by assumption) dc)
    have x:=(x.ext (ay.set H (iX p.1 p.2))).dt (.dict Bh (fG (bg P p.1 (p.2,z))));refine B (show fx (fG P) (.str p.1) (.ref z)=fG (bg P p.1 (p.2,z)) from rK (λy:Nat×Addr=>PV.ref y.2) P p.1 (p.2,z)) ?_;obtain⟨i⟩:=i;obtain⟨nd,hp⟩:=h;refine Ka (ok p bP) λac8 U=>?_;obtain⟨J,ro,O,O,O,O⟩:=ac8;refine sn (N (some (.str p.1),v.2.1,some (.bytes (cC p.2)),some .none) _ ⟨Bh,bg P p.1 (p.2,z),x,⟨λy m=>?_⟩,⟨xF nd _ _,λy m=>?_⟩,λy m=>?_,λy m=>ok y (cn _ m)⟩)
    ·rcases NV m with m|rfl
     ·exact FO (fg H (i y m)) ed
     ·exact FO (AH.a9 ..) ed
    ·rcases NV m with m|rfl
     ·exact hp y m
     ·obtain⟨O,hu,O,O⟩:=r
      cases(hu _ _ U).2 with
      |id hk=>exact cZ J ro U hk
    ·rcases all y m with m|m
     ·rcases d4.mp m with rfl|m
      ·exact .inr (NW nd (.inl rfl))
      ·exact .inl m
     ·exact .inr (NW nd (.inr m))
   ·obtain⟨rR,P,x,i,h,all,O⟩:=j
    refine tn (rz (!(ch.length==0)) (λK k=>?_) λbX x2=>?_)
    ·z_go
     refine⟨cI _,λz H=>aE (um (fg H (x.o 1 rfl)) (AH.a9 ..) λq=>nn (q▸H) (x.o 1 rfl)) ?_⟩;exact B (show(mE ch).length=ch.length from aW _) (k _ (ay.set H _))
    have x:=x.ext x2;cases ch with
    |nil=>exact sk (sn (kt _ _ (Bl.mk _ _ _ _ [] true _ F [] _ ((x.aX 3 rfl).aX 1 rfl).drop ⟨aG rfl,NR D⟩ r I D eV nofun nofun (cI _))))
    |cons y0 ch=>
     have i:mD P bX:=let⟨i⟩:=i;⟨λy m=>x2 _ _ (i y m)⟩;have wJ:(jm (sorted P)).length<=1000000:=let⟨dN,ok,_⟩:=(NU h);Nq ok dN;k_in;refine fA (x.o 3 rfl) rfl rfl ⟨dc,acT C (x.o 0 rfl) i h.acY λd8 x3=>⟨dc,Fm C ((x.ext x3).aX 3 rfl) hL wJ λY x=>?_⟩⟩;refine ee (c8 (MT C x FJ (aG rfl) λY x=>sk (sn ?_)) vr (x.o 0 rfl) e0);rw[NQ D] at x;refine kt _ _ (Bl.mk _ _ _ _ (y0::ch) false _ _ (sorted P) _ (x.aX 1 rfl).drop rfl (r.y2 h) (λn hn=>(aH (ac2 n)).trans (I n hn)) ((aH (Fg _)).trans D) (((funext λn=>by
       unfold bt;cases e:A n with
       |some v=>rfl
       |none=>
        cases e2:(sorted P).lookup n with
        |none=>rfl
        |some k=>exact nn e (FX h e2).2.2.1)).trans eV) (λy m=>?_) ok (by exact aw (by assumption) (aw (ip (by assumption)) dc)))
     rcases all y m with q|q
     ·cases q
     ·refine ai (bJ.mp q) λw mw e=>?_
      have e1:=acZ h mw;have e2:=(FX h e1).2.2.1;rw[e] at e1 e2;have q2:w.2.1=y.2:=by have:=bo (e2.symm.trans (ok y m).2);injection this
      exact az q2 e1
 ·cases j with
  |mk v1 v2 v3 v4 ch b F1 F2 L Y x h r I D e lk ok dN=>
  refine ee (c8 (ac4 C x h λY x=>sn (tn ?_)) vr (x.o 0 rfl) e0);have x:=x.drop;clear h;refine dX λK c=>xA (cQ (x.o 0 rfl) (c _ _ _ ?_)) vr;clear c;have ll:(mE ch).length<=aI:=by unfold mE;rw[aW];exact bL (by exact aw (by assumption) dc)
  refine eu (ι:=Option PV×Option PV) (λy:Bs×Nat=>PV.av [.str y.1,.bytes (cC y.2)]) (λw=>L1 (.ref s) (L1 (.bool true) (L1 .none (L1 (.ref l) (L1 (.ref rd) (L1 (.ref M) (L0 (Lo w.1 (Lo v2 (Lo w.2 (Lo v4 (L0 (L0 []))))))))))))) (λr g=>(∀y∈r,y∈ch)/\∃G,Sv d s L aV ((M,.list (mE ch))::τ) G g/\∀m v,G m=some v->A m=some v) (λO O=>False)
   (λp rr w g K j N O=>?_) (λO O j=>(by refine yf j λO O ac9 O=>?_;obtain⟨O,x,O,O,O,O⟩:=ac9;exact x.o 1 rfl)) (λw g j=>?_) (λO O O f=>f.elim) ch (v1,v3) Y (Gg (λO m=>m) A ⟨F2,x.aX 1 rfl,r,I,D,e⟩ (λO O h=>h))
  ·refine yf j λj1 G y j2=>?_
   refine Ka (ok p (j1 p bP)) λada U=>?_;obtain⟨J,O,O,fn,O,O⟩:=ada;have ln:=yb J;obtain⟨O,x,O,O,O,O⟩:=id y;refine gm rfl rfl (bl) (bl) (ee (c8 (acW C y J (nY J) (lk p (j1 p bP)) (λv h=>bo ((j2 _ _ h).symm.trans U)) λg A2 y h2=>?_) vr (x.o 0 rfl) (e2 vr vr)));exact sn (N (some (.str p.1),some (.bytes (cC p.2))) _ (Gg (λy m=>j1 y (cn _ m)) A2 y (λm v h=>j2 m v (h2 m v h))))
  ·refine yf j λO G adb O=>?_;obtain⟨F3,x,r,I,D,e⟩:=adb
   refine tn ?_;k_in;refine⟨rfl,cQ (x.o 1 rfl) ⟨ll,ib (λv=>v.jW (λl=>some (l.headD .none)) none) (x.o 1 rfl) _ [] (λv m K k=>?_) ?_⟩⟩
   ·refine ai (bJ.mp m) λy O ade=>?_;subst ade
    exact gm rfl rfl (bl) (bl) k
   ·refine⟨aw (by rw[gH];exact List.length_filterMap_le _ _) ll,λz H=>kk _ G L _ ⟨F3,(x.ext (ay.set H _)).aX 1 rfl|>.drop,r,I,D,e⟩⟩
end
noncomputable def FZ:Bs:=[99,101,108,108,115]
noncomputable def adf:Bs:=[109,105,120,101,100]
noncomputable def adg:Bs:=[116,117,114,110]
def jO (b:Nat) (a:Addr) (m t:Int):bS:=.dict b [(.str FZ,.ref a),(.str adf,.int m),(.str adg,.int t)]
noncomputable def gB (a:List Int):bS:=.list (a.map .int)
theorem adh {lo b:PV}(e:Y a=some (.ro g d))(f:d.length<=aI)(c:kT d lo b=some r)(k:bw Y (.list r) Q):sX (.ref a) lo b .none Q Y:=by refine(?_:vO _ False (Y a));exact B e (aE c ⟨f,k⟩)
theorem adi (l:List a)(m:Nat):(bT l none (some (m:Int))).length<=m:=by refine aw (List.length_take_le _ _) (?_:clipAt l.length m-0<=m);unfold clipAt;exact B (aH (jv.mpr (fH m))) (qB.mpr (Int.max_le.mpr ⟨fH m,Int.min_le_left _ _⟩))
section
variable (C:Ck a)
include C
theorem adj (x:Nw d ((z,.bc .i9 [])::e) Y)(k:∀f b e1 e2 c,Nw d ((z,.bc .i9 [(.left,.none),(.fa,.ref f),(.below,.ref b)])::(f,.dict e1 [])::(b,.dict e2 [])::e) c->Q .none c):a false .BI [.ref z] Q X Y:=by refine aZ Y1 C ?_;w_up;refine jj (x.dA (o':=.bc .i9 [(.left,.none)]) λY x=>?_) vc vr (x.o 0 rfl);k_in;refine λe1=>x.bw λf Y x O=>ur (x.o 1 rfl) rfl ((x.aX 1 rfl).dA (o':=.bc .i9 [(.left,.none),(.fa,.ref f)]) λY x=>?_);k_in;exact λe2=>x.bw λb Y x O=>ur (x.o 1 rfl) rfl ((x.aX 1 rfl).dA (o':=.bc .i9 [(.left,.none),(.fa,.ref f),(.below,.ref b)]) λY x=>sn (k f b e1 e2 _ ((x.aX 2 rfl).aX 1 rfl)))
theorem adk {ns:List Int}(t:g l=some (.ro A (ns.map .int)))(z:ns.length<=63)(k:∀d p e m b c,Nw g [(d,jO e p m 0),(p,gB b)] c->b.length<=24->Q (.ref d) c):a false (.bK 0) [.ref l] Q X g:=by
 refine aZ ZY C ?_;w_up;k_in;have lc:(bT ns none (some 24)).length<=24:=adi _ _;refine⟨rfl,adh t (by rw[aW];exact bL (aw bW dc)) (br some (MY PV.int ns none (some 24)).symm) ((Nw.refl g).bw λH Y x O=>cQ (x.o 0 rfl) ?_)⟩;generalize bT ns none (some 24)=b at x lc;have h:(b.map PV.int).length<=aI:=by rw[aW];exact bL (aw bW dc)
 refine⟨h,ib some (x.o 0 rfl) _ [] (λv m K k=>?_) ?_⟩
 ·refine ai (bJ.mp m) λi O s=>?_;subst s
  exact aS (bl) rfl (aE rfl k)
 rw[gH,List.filterMap_some];refine⟨h,x.bw λw Y x O=>jt (bl) rfl rfl (bl) (bl) (dX λK q=>xA (cQ (x.o 0 rfl) (q _ _ _ ?_)) vr)⟩;clear q;refine eu (ι:=Int×Option PV) .int (λy=>L1 (.ref l) (L1 (.ref w) (L1 (.int y.1) (Lo y.2 (L0 []))))) (λr c=>c=Y) (λO O=>False)
  (λi r y c K j u O=>?_) (λO O j=>B j (x.o 0 rfl)) (λy c j=>?_) (λO O O f=>f.elim) b (7373,none) Y rfl
 ·refine⟨bl,?_⟩
  k_in;exact qc (.inr dc) (mr dc (h9 (h9 (mr dc ⟨bl,sn (u (_,_) _ j)⟩))))
 ·refine B j (tn ?_)
  k_in;refine⟨rfl,oP (x.o 0 rfl) ⟨h,x.bw λn Y x O=>cZ rfl rfl rfl (λe=>x.bw λd Y x O=>?_)⟩⟩;have x:Nw g [(d,jO e n y.1 0),(n,gB b.reverse)] Y:=by unfold gB;exact B List.map_reverse (x.FG [0,1])
  exact k d n e y.1 b.reverse Y x (B o4 lc)
end
theorem Nw.st {e1 e2:Nat}(x:Nw t ((z,.bc .i9 [(.left,.none),(.fa,.ref f),(.below,.ref b)])::(f,.dict e1 [])::(b,.dict e2 [])::d) Y)(nd:(β.map (·.1)).Nodup)(h:∀y∈β,t y.1=some y.2):St z (λO=>none) (d++β) Y:=by
 have g:∀a,gi.de ⟨z,f,b,[],[]⟩ a->a=z∨a=f∨a=b:=λa w=>by
  rcases w with w|w|w|⟨_,m,_⟩
  ·exact .inl w
  ·exact .inr (.inl w)
  ·exact .inr (.inr w)
  ·cases m
 refine⟨⟨z,f,b,[],[]⟩,⟨rfl,λO=>rfl,λp h=>by injection h⟩,⟨⟨⟨(x.o 0 rfl),⟨e1,x.o 1 rfl⟩,⟨e2,x.o 2 rfl⟩,nofun,(x.ne (i:=1) (j:=2) rfl rfl dc),nofun,o7,o7⟩,⟨λO O=>rfl,nofun⟩,o7,nofun,cI _⟩,?_,?_⟩⟩
 ·refine B cF ?_
  have n1:=(g9.mp (g9.mp (g9.mp x.nd).2).2).2;refine kI.mpr ⟨n1,nd,λa l b n q=>?_⟩;refine ai (bJ.mp l) λy c j=>?_;subst j;refine ai (bJ.mp n) λw s k=>?_;subst k;exact nn (q▸((x.ob y (cn _ (cn _ (cn _ c)))).2)) (h w s)
 ·intro y m
  rcases hG.mp m with m|m
  ·refine⟨(x.ob y (cn _ (cn _ (cn _ m)))).1,λw=>?_⟩
   have n0:=g9.mp x.nd;have n1:=g9.mp n0.2;have c:y.1∈d.map (·.1):=bJ.mpr ⟨y,m,rfl⟩;rcases g _ w with q|q|q
   ·exact n0.1 (by exact az q (cn _ (cn _ c)))
   ·exact n1.1 (by exact az q (cn _ c))
   ·exact(g9.mp n1.2).1 (by exact az q c)
  ·have e:=h y m
   refine⟨x.ext _ _ e,λw=>?_⟩;have no:∀i:Nat,∀a o,((z,bS.bc .i9 [(.left,.none),(.fa,.ref f),(.below,.ref b)])::(f,.dict e1 [])::(b,.dict e2 [])::d)[i]? =some (a,o)->y.1≠a:=λi a o r q=>nn (q▸(x.ob _ (uJ r)).2) e;rcases g _ w with q|q|q
   ·exact no 0 _ _ rfl q
   ·exact no 1 _ _ rfl q
   ·exact no 2 _ _ rfl q
inductive lu (d:Addr)(F:bH)(g:iV)(e a:Addr)(b:Nat)(Y:AH):Prop
 |mk (f:Nat) (m t:Int) (c:List Int) (x:St d F ((e,jO f a m t)::(a,gB c)::g) Y) (i:0<=t/\t+b<=1000) (h:c.length<=24)
theorem adl {t:Int}(h:0<=t/\t+(b+1:Nat)<=1000):0<=t+1/\t+1+b<=1000:=⟨Int.le_trans h.1 (Int.le_add_of_nonneg_right dc),by rw[Int.add_assoc,Int.add_comm 1];exact h.2⟩
section
variable (C:Ck a){F:bH}
include C
theorem qn (j:lu d F D s f (b+1) Y){n:Int}(i:0<n/\n<=1000)(k:∀H r,0<=r->r<n->lu d F D s f b H->Q (.int r) H):a false (.bK 1) [.ref s,.int n] Q X Y:=by
 obtain⟨p,m,t,h,x,I,l⟩:=j;have n0:n≠0:=Int.ne_of_gt i.1;have u:=adl I;refine aZ ZZ C ?_;w_up;k_in;refine aE (gQ (r:=.int t) (x.o 0 rfl) rfl rfl) (h9 (jh (x.o 0 rfl) (aS rfl (bl) (λp=>x.dA (o':=jO p f m (t+1)) λY x=>?_))));k_in;refine aE (gQ (r:=.int m) (x.o 0 rfl) rfl rfl) (aE (gQ (r:=.int (t+1)) (x.o 0 rfl) rfl rfl) (qc (.inl dc) (aE (gQ (r:=.int (t+1)) (x.o 0 rfl) rfl rfl) (qc (.inr ⟨Int.lt_of_lt_of_le dc u.1,Int.lt_of_le_of_lt (lJ (Int.le_add_of_nonneg_right (fH b)) u.2) dc⟩) (h9 ⟨bl,rz (!(h.length==0)) (λK k=>?_) λN M=>?_⟩)))))
 ·z_go
  refine aE (gQ (r:=.ref f) (x.o 0 rfl) rfl rfl) ⟨cI _,λz w=>aE (um (fg w (x.o 1 rfl)) (AH.a9 ..) λq=>nn (q▸w) (x.o 1 rfl)) ?_⟩;rw[aW];exact k _ (ay.set w _)
 have x:=x.ext M;have cj:∀{Y:AH} {h:List Int} {g:Int} {v:Option PV},St d F ((s,jO p f m (t+1))::(f,gB h)::D) Y->h.length<=24->Ss a a6 0 false (.cons (.assign (.af 2) (.bq .mod (.bq .mul (.bq .mod (.af 2) (.ab (.int 2147483629))) (.ab (.int 40692))) (.ab (.int 2147483647)))) (.cons (.assign (.af 2) (.bq .mod (.bq .add (.bq .mul (.af 2) (.af 2)) (.ab (.int 1867))) (.ab (.int 2147483587)))) (.cons (.ret (.bq .mod (.bq .fdiv (.bq .mod (.bq .mul (.af 2) (.ab (.int 39373))) (.ab (.int 2147483579))) (.ab (.int 64))) (.af 1))) .nil))) (L1 (.ref s) (L1 (.int n) (L1 (.int g) (Lo v [])))) (cj Q) (h8 X) Y:=λ{Y h g v} x l=>by k_in;refine mr dc (qc (.inr dc) (mr dc ⟨bl,?_⟩));have G:=Int.emod_lt_of_pos (g%2147483629*40692) (by decide:(0:Int)<2147483647);have U:=Int.emod_nonneg (g%2147483629*40692) (by decide:(2147483647:Int)≠0);generalize g%2147483629*40692%2147483647=g at G U;k_in;refine qc (.inl (by omega)) (h9 (mr dc ⟨bl,?_⟩));generalize (g*g+1867)%2147483587=g;k_in;refine qc (.inr dc) (mr dc (EV dc (mr i.1 (k _ _ (Int.emod_nonneg _ n0) (Int.emod_lt_of_pos _ i.1) ⟨p,m,t+1,h,x,u,l⟩))))
 rcases ym h with rfl|⟨r,c,e⟩
 ·exact sk (cj x l)
 rw[yn] at e;subst e;refine B (show(!((r++[c]).length==0))=true by rw[bR];rfl) ?_;have y:r.length+1<=24:=by rw[bR] at l;exact l
 have A:r.length<=24:=Nat.le_of_succ_le y;refine mu (qe ?_ (vi vr vc (gQ (r:=.ref f) (u:=.str FZ) (x.o 0 rfl) rfl rfl)) (x.o 1 rfl) e0);refine aE (r:=.int c) (B cF (List.getLast?_concat)) ⟨by rw[aW];exact bL (aw l dc),?_⟩;rw[show bS.list ((r++[c]).map PV.int).dropLast=gB r by unfold gB;exact B cF (br bS.list List.dropLast_concat)];refine⟨bl,(x.aX 1 rfl).dA (o':=gB r) λY x=>(fR λK L J=>dK (b:=decide (c≥1000000)) ?_ (tq (vq vr vc)))⟩;cases decide (c≥1000000) with
 |false=>refine J _ (sk ?_);k_in;exact mr dc (h9 ⟨bl,sk (cj (x.aX 1 rfl) A)⟩)
 |true=>refine L _ ?_;k_in;refine aE (gQ (r:=.ref f) (u:=.str FZ) (x.o 1 rfl) rfl rfl) (lb (x.o 0 rfl) (aS rfl rfl (EV ⟨i.1,Int.lt_of_le_of_lt i.2 dc⟩ (lg (x.o 0 rfl) ⟨by rw[aW];exact bL (aw A dc),B (show bS.list (r.map PV.int++[PV.int (c/n)])=gB (r++[c/n]) by unfold gB;rw[cF];rfl) (x.dA (o':=gB (r++[c/n])) λY x=>?_)⟩))));k_in;exact mr i.1 (k _ _ (Int.emod_nonneg _ n0) (Int.emod_lt_of_pos _ i.1) ⟨p,m,t+1,_,x.aX 1 rfl,u,B bR y⟩)
end
noncomputable def NZ:List Bs:=[[],[116,97,103,115,47],[104,101,97,100,115,47],[114,101,109,111,116,101,115,47]]
noncomputable def adm (t:Bs)(x:PV):Option PV:=x.d6 (λp=>some (.str ([114,101,102,115,47]++p++t))) none
theorem adn (e:Y z=some (.list ((l.map λ(c:Nat)=>(c:Int)).map .int)))(g:∀c∈l,c<256)(h:l.length<=aI):gJ Y .bytes [.ref z]=some (.bytes l):=by
 have b:(((l.map λ(c:Nat)=>(c:Int)).all λi=>decide (0<=i/\i<256))&&decide ((l.map λ(c:Nat)=>(c:Int)).length<=aI))=true:=by rw[Bool.and_eq_true,bI,aW];exact⟨λi m=>(ai (bJ.mp m) λc f a=>az a (f3 ⟨fH c,by have:=g c f;exact i7.mpr (by assumption)⟩)),f3 h⟩
 have d:(l.map λ(c:Nat)=>(c:Int)).map Int.toNat=l:=by exact B cV ((gF λc O=>rfl).trans (sh l))
 exact(kc e).trans (by rw[E0,sa,aG b,d])
theorem N0 (h:j<n)(a:n<=1000):fL n (j:Int)=some j:=xM ⟨Int.le_trans dc (Int.natCast_nonneg j),Int.le_trans (Int.ofNat_le.mpr (Nat.le_trans (Nat.le_of_lt h) a)) dc⟩ (if_neg (Int.not_lt.mpr (Int.natCast_nonneg j))) h
section
variable (C:Ck a){Q:PV->AH->Prop}{F:bH}
include C
theorem N1 (j:lu d F l g p (b+1) Y)(h:(z,.list (ns.map .str))∈l)(A:ns≠[])(e:ns.length<=1000)(k:∀f n,n∈ns->lu d F l g p b f->Q (.str n) f):a false (.bK 2) [.ref g,.ref z] Q X Y:=by
 obtain⟨u,m,t,q,x,H,y⟩:=id j;refine aZ Z0 C ?_;w_up;k_in;refine⟨rfl,aE (Fu (x.om (cn _ (cn _ h))) (aW ..) (bL e)) ⟨dc,qn C j ⟨f5.mpr (List.length_pos_iff.mpr A),i7.mpr e⟩ λf r v w j=>?_⟩⟩;obtain⟨u,m,t,q,x,H,y⟩:=id j;refine Ke (uI v) λi s=>?_;subst s;have c:i<ns.length:=f5.mp w;refine aE (ET (j:=i) (r:=.str ns[i]) (x.om (cn _ (cn _ h))) ?_ ?_) (k _ _ (List.getElem_mem c) j)
 ·rw[aW];exact N0 c e
 ·refine B (eZ) (B (rW c) ?_);rfl
theorem yc (h:1<=n/\n<16)(k:∀b,ay Y b->Q (.bytes (cC n)) b):a false (.bK 3) [.int n] Q X Y:=by refine aZ Z1 C ?_;w_up;k_in;refine dB (eA.mpr (by omega)) ⟨rfl,bl,λz c=>aE (r:=.bytes (cC n)) ?_ (k _ (ay.set c _))⟩;show dq _ _ ((Y.set z _) z)=_;rw[AH.a9];show(if _ then some (PV.bytes [0,7,1,(n:Int).toNat]) else none)=_;rw[aG];rfl;show((true&&(true&&(true&&(decide (0<=(n:Int)/\(n:Int)<256)&&true))))&&true)=true;refine B (f3 ⟨fH n,f5.mpr (Nat.lt_trans h.2 dc)⟩) ?_;rfl
theorem N2 (k:∀b z,ay Y b->Y z=none->b z=some (.list (eI.map .str))->Q (.ref z) b):a false (.bK 4) [] Q X Y:=by refine aZ Z2 C ?_;w_up;k_in;refine⟨bl,(Nw.refl Y).bw λe c x O=>⟨bl,?_⟩⟩;k_in;refine⟨bl,x.bw λf c x O=>xu (x.o 1 rfl) (x.o 0 rfl) (bl) (x.bw λd c x O=>k c d x.ext (x.ob _ bP).2 (x.o 0 rfl))⟩
theorem N3 (h:t.length<=1000)(k:∀c z,ay Y c->Y z=none->c z=some (.list ((iW t).map .str))->Q (.ref z) c):a false (.bK 5) [.str t] Q X Y:=by
 refine aZ Z3 C ?_;w_up;k_in;refine⟨bl,(Nw.refl Y).bw λi b x O=>cZ rfl (bl) (bl) (ib (adm t) trivial _ [] (λx m K k=>?_) ⟨bl,x.bw λj b x O=>?_⟩)⟩
 ·refine ai (bJ.mp (show x∈NZ.map PV.str from m)) λp e d=>?_;subst d
  have g:p.length<=8:=(by decide:∀p∈NZ,p.length<=8) p e;exact⟨bl,qb (by show 5+p.length<=aI;unfold aI;exact mR bW dc) (qb (by refine B bR ?_;show 5+p.length+t.length<=aI;unfold aI;exact OV bW bW dc) k)⟩
 refine xu (x.o 1 rfl) (x.o 0 rfl) (bl) (x.bw λn b x O=>qb (show 13+t.length<=aI by unfold aI;exact mR bW dc) (qb (by refine B bR ?_;show 13+t.length+5<=aI;unfold aI;exact oe bW dc) ⟨bl,x.bw λq b x O=>xu (x.o 1 rfl) (x.o 0 rfl) (bl) (x.bw λf b x O=>k b f x.ext (x.ob _ bP).2 ?_)⟩));refine(x.o 0 rfl).trans (br (λl=>some (bS.list l)) ?_);unfold iW ui;simp only[List.map_cons,List.map_nil,List.append_nil,List.nil_append];rfl
theorem N4 (f:∀c∈t,c<256)(b:t.length<=aI)(k:∀d,ay Y d->Q (.bytes t) d):a false (.bK 8) [.str t] Q X Y:=by
 refine aZ Z7 C ?_;w_up;k_in;refine cZ rfl rfl (by rw[aW];exact b) (ib (λx=>x.d6 sS (some x)) trivial _ [] (λx m K h=>?_) ?_)
 ·refine ai (bJ.mp m) λc i e=>?_;subst e
  exact aS (bl) rfl (aE rfl h)
 rw[gH,((map_some (λ(c:Nat)=>PV.str [c]) (λx=>x.d6 sS (some x)) (λ(c:Nat)=>PV.int c) (λc=>rfl) t).trans (cV ..).symm)];refine⟨by rw[aW,aW];exact b,λz g=>aE (r:=.bytes t) (adn (AH.a9 ..) f b) (k _ (ay.set g _))⟩
end
noncomputable abbrev qo:Str:=(("_law_short":Str)++".<locals>."++"<lambda>")
def ado (c:Addr):Obj:=tabObj #[rawInt jI.line,rawInt jI.col,.ref c]
inductive nZ:iV->Prop
 |a:nZ [(868,.raw (tabObj #[]))]
 |b (c:Addr) (d:Obj) (e:Array Value) (t:Tok) (e1:d.data=.fields e) (e2:e[1]? =some (.str qo t)):nZ [(868,.raw (ado c)),(c,.raw d)]
section
variable {F:bH}
theorem nZ.aa (T:nZ tb)(x:St d F (τ++tb) Y):nF Y 868 jI qo:=by
 cases T with
 |a=>exact .inl (x.om (fX _ bP))
 |b c f g t e1 e2=>
  have e:(τ.map (·.1)++[868,c]).Nodup:=by obtain⟨O,O,O,e,O⟩:=x;rw[cF] at e;exact e
  exact .inr ⟨c,f,g,t,x.om (fX _ bP),λq=>(g9.mp ((kI.mp e).2.1)).1 (B q bP),x.om (fX _ (cn _ bP)),e1,e2⟩
theorem cU.adp (x:cU Y D)(h:D.de a):Y a≠some (.raw o):=by
 rcases h with rfl|rfl|rfl|⟨y,m,rfl⟩
 ·exact B x.dk (λh=>by cases h)
 ·exact Ke x.fl λO e=>B e (λh=>by cases h)
 ·exact Ke x.bl λO e=>B e (λh=>by cases h)
 ·exact Ke (x.sub y m) λO e=>B e (λh=>by cases h)
theorem St.tX (x:St d F (τ++tb) Y)(T:nZ tb)(z:nF i 868 jI qo)(h:∀b,b≠868->Y b≠none->i b=Y b)(U:∀y∈τ,∀o,y.2≠.raw o):∃rS,nZ rS/\St d F (τ++rS) i:=by
 obtain⟨D,f,⟨x,s,u⟩⟩:=x;obtain⟨r,L,H⟩:∃r o,tb=(868,o)::r:=by cases T<;>exact mH _ _ rfl
 subst H;rw[cF,c3] at s;refine dD (kI.mp s) λn1 J j=>?_;have k:¬D.de 868:=(u _ (fX _ bP)).2;have l:∀y∈τ,i y.1=some y.2/\¬D.de y.1:=λy m=>by exact Ka (u y (r8 _ m)) λe n=>⟨(h _ ((λy m q=>j y.1 (bJ.mpr (aQ y m rfl)) 868 bP q:∀y∈τ,y.1≠868) y m) (by exact B e (λh=>by injection h))).trans e,n⟩
 have p:fC i D:=⟨x.aa.MO (λa w=>h a (λq=>k (q▸w)) (x.aa.bO w)),x.ok,x.fk,x.jU,x.dN⟩;rcases z with e|⟨c,v,I,t,e,G,ec,e1,e2⟩
 ·refine aQ _ .a ⟨D,f,p,?_,λy m=>?_⟩
  ·exact B cF (kI.mpr (aS n1 (BB _ _) (λa g b hb q=>j a g 868 bP (q.trans (eR.mp hb)))))
  ·rcases hG.mp m with m|m
   ·exact l y m
   ·exact B (eR.mp m) ⟨e,k⟩
 ·refine aQ _ (.b c v I t e1 e2) ⟨D,f,p,?_,λy m=>?_⟩
  ·refine B cF (kI.mpr (aS n1 (g9.mpr ⟨λm=>G (eR.mp m).symm,BB _ _⟩) (λa g b hb q=>?_)))
   rcases d4.mp hb with hb|hb
   ·exact j a g 868 bP (q.trans hb)
   ·refine ai (bJ.mp g) λy C A=>?_;subst A
    exact(λy m q=>U y m v (ss (l y m).1 (q▸ec)):∀y∈τ,y.1≠c) y C (q.trans (eR.mp hb))
  ·rcases hG.mp m with m|m
   ·exact l y m
   ·rcases d4.mp m with rfl|m
    ·exact⟨e,k⟩
    ·exact B (eR.mp m) ⟨ec,λw=>p.aa.adp w ec⟩
end
def rT:List Bs:=[kq,kq++[116,97,103,115,47],kq++[104,101,97,100,115,47],kq++[114,101,109,111,116,101,115,47]]
def mF (n p:Bs):Bool:=bT n none (some p.length)==p
def yd (n:Bs):Bool:=bT n none (some 13)==kq++[114,101,109,111,116,101,115,47]&&bT n (some (-5)) none==47::AU
def rU (n:Bs):List Bs:=(rT.filter (mF n)).map (λp=>bT n (some p.length) none)++(bif yd n then[bT n (some 13) (some (-5))] else[])
def kF (n:Bs):List Bs:=(jn.filter (jM n)).map (gZ n)
theorem N5:eI.all (λn=>(List.isPerm (rU n) (kF n)&&(kF n).all λa=>Nat.ble a.length 1000&&(kF n).all λb=>!(a.length==b.length)||a==b)&&(Nat.ble n.length 1000&&decide ((kF n).Pairwise λa b=>a.length<=b.length)))=true:=by kernel_rfl
noncomputable def oX (aV:Lm)(n:Bs):List Bs->Bs
 |[]=>n
 |t::r=>bif (g5 aV n t).isEmpty then t else oX aV n r
theorem F0 (aV:Lm)(n:Bs):∀r:List (Bs×Bs),oX aV n ((r.filter (jM n)).map (gZ n))=jN aV n r
 |[]=>rfl
 |y::r=>by
  refine B kL (?_:_=(bif jM n y&&(g5 aV n (gZ n y)).isEmpty then gZ n y else jN aV n r));cases e:jM n y with
  |false=>exact F0 aV n r
  |true=>refine((B (F0 aV n r) ?_):(bif (g5 aV n (gZ n y)).isEmpty then gZ n y else oX aV n ((r.filter (jM n)).map (gZ n)))=_);rfl
theorem N6 (h:n∈eI)(p:c.Perm (rU n))(o:c.Pairwise λa b=>a.length<=b.length):c=kF n/\∀t∈c,t.length<=1000:=by
 refine Ka (V (bI.mp N5 n h)) λd f=>Ka (V d) λj g=>?_;have i:=p.trans (List.isPerm_iff.mp j);have e:c=kF n:=List.Perm.eq_of_pairwise (le:=λa b:Bs=>a.length<=b.length) (λa b k l d f=>by have:=bI.mp (V (bI.mp g a (i.mem_iff.mp k))).2 b l;have this:=(show(a.length==b.length)=true from bG.mpr (Nat.le_antisymm d f))▸this;exact bG.mp this) o (cf (V f).2) i
 exact⟨e,λt m=>Nat.le_of_ble_eq_true (V (bI.mp g t (e▸m))).1⟩
def ye (C:jX) (Q:Fl->aP->AH->Prop) (X:XR) (f:Fl) (a:aP) (Y:AH):Prop:=match f with
 |.next=>LV C a6 2 868 jI qo 2 4 xo a (λf a Y=>match f with
  |.next=>S C a6 2 false xn a (λf a Y=>match f with|.next=>Q .next a Y|f=>Q f a Y) X Y
  |f=>Q f a Y) X Y
 |f=>Q f a Y
theorem adq (h:Ss C a6 2 false (.cons tU (.cons tV (.cons oO .nil))) a (ye C Q X) X Y):AG C a6 2 868 jI qo 2 4 tU tV oO xo xn a Q X Y:=by
 have e (N b:aP->AH->Prop) (c:N=b):(λ(f:Fl) (a:aP) (Y:AH)=>match f with|.next=>N a Y|f=>ye C Q X f a Y)=λf a Y=>match f with|.next=>b a Y|f=>Q f a Y:=funext λf=>by subst c;cases f<;>rfl
 exact(br (λK=>S C a6 2 false tU a K X Y) (e (λa Y=>Ss C a6 2 false (.cons tV (.cons oO .nil)) a (ye C Q X) X Y) _ (funext λa=>funext λY=>br (λK=>S C a6 2 false tV a K X Y) (e (λa Y=>Ss C a6 2 false (.cons oO .nil) a (ye C Q X) X Y) _ (funext λa=>funext λY=>br (λK=>S C a6 2 false oO a K X Y) (e (λa Y=>ye C Q X .next a Y) _ rfl)))))).mp h
section
variable (C:Ck b){F:bH}{a:List Bs}
include C
theorem ads (x:St d F (τ++tb) Y)(tO:nZ tb)(nr:∀y∈τ,∀o,y.2≠.raw o)(ht:(u,.list (a.map .str))∈τ)(hV:∀c,a.any (·==c)=(aV c).isSome)(M:n∈eI)(k:∀g rS,nZ rS->St d F (τ++rS) g->Q (.str (jN aV n jn)) g):b false (.bK 6) [.ref u,.str n] Q X Y:=by
 obtain@⟨w,h,C',L',rfl⟩:=id C;refine YL (cx:=jg w h) (f:=.bK 6) (c:=870) (P:=868) C' L' (Z4 w.params) (Z5 w.params) rfl (adq (Ka (V (bI.mp N5 n M)) λh1 L=>?_):AG _ a6 2 868 jI qo 2 4 tU tV oO xo xn (L1 (.ref u) (L1 (.str n) (L0 (L0 (L0 (L0 [])))))) (cj Q) (h8 X) Y);have H:=Nat.le_of_ble_eq_true (V L).1;unfold tU;k_in;refine⟨cI _,x.bw λi Y x=>⟨bl,dX λK U=>?_⟩⟩;z_go;refine⟨bl,U _ _ _ ?_⟩;clear U;refine eu (ι:=Option PV) .str (λy=>L1 (.ref u) (L1 (.str n) (L1 (.ref i) (Lo y (L0 (L0 [])))))) (λr g=>∃l,rT=l++r/\St d F ((i,.list (((l.filter (mF n)).map λp=>bT n (some p.length) none).map .str))::(τ++tb)) g) (λO O=>False)
  (λp r y g K j I O=>?_) (λO O O=>trivial) (λy g j=>?_) (λO O O f=>f.elim) rT none Y (aQ [] rfl x)
 ·refine ai j λl e x=>⟨bl,?_⟩
  have N:p.length<=20:=(by decide:∀p∈rT,p.length<=20) p (B e (fX _ bP));have ld:l.length<=4:=by have:=br List.length e;rw[bR] at this;exact aw (gn _ _) (ju this.symm)
  refine fR λK kt U=>?_;z_go;refine⟨rfl,aE (len_str (bL (aw (by assumption) dc))) (rP (r:=bT n none (some p.length)) rfl (bL H) ?_)⟩;z_go;refine B (show(bT n none (some p.length)==p)=mF n p from rfl) ?_;cases eh:mF n p with
  |false=>exact U _ (sk (sn (I _ _ (aQ (l++[p]) (by rw[e,e6];rfl) (by rw[List.filter_append,kL,eh];rw[show(if false=true then p::List.filter (mF n) [] else List.filter (mF n) [])=[] from rfl,eB];exact x)))))
  |true=>
   refine kt _ ?_;k_in;refine lb (x.o 0 rfl) (cZ rfl rfl rfl (aE (len_str (bL (aw (by assumption) dc))) (rP (r:=bT n (some p.length) none) rfl (bL H) (lg (x.o 0 rfl) ⟨?_,sk (sn (I _ _ (aQ (l++[p]) (by rw[e,e6];rfl) ?_)))⟩))))
   ·rw[aW,aW];exact bL (aw (mJ _ _) (aw (by assumption) dc))
   ·rw[List.filter_append,kL,eh]
    exact B (rfl:(if true=true then p::List.filter (mF n) [] else List.filter (mF n) [])=[p]) (B cF (B cF (x.dt _)))
 refine ai j λl e x=>?_;rw[eB] at e;subst e;refine tn ?_;have D:∀{K:Fl->aP->AH->Prop} {X:XR},(∀Y,St d F ((i,.list ((rU n).map .str))::(τ++tb)) Y->K .next (L1 (.ref u) (L1 (.str n) (L1 (.ref i) (Lo y (L0 (L0 [])))))) Y)->Ss (aY (jg w h)) a6 2 false (.cons oO .nil) (L1 (.ref u) (L1 (.str n) (L1 (.ref i) (Lo y (L0 (L0 [])))))) K X g:=λ{K X} k=>by
  unfold oO;refine rz (yd n) (λK k=>?_) λbX J=>?_
  ·have k:∀AS,ay g AS->K ((bT n none (some 13)==[114,101,102,115,47,114,101,109,111,116,101,115,47])&&(bT n (some (-5)) none==[47,72,69,65,68])) AS:=k
   z_go;refine rP (r:=bT n none (some 13)) rfl (bL H) (aE rfl ?_);cases e1:bT n none (some 13)==([114,101,102,115,47,114,101,109,111,116,101,115,47]:Bs) with
   |false=>rw[e1] at k;exact k _ (ay.refl _)
   |true=>
    rw[e1] at k;refine oQ (rP (r:=bT n (some (-5)) none) rfl (bL H) (aE rfl ?_));cases e2:bT n (some (-5)) none==([47,72,69,65,68]:Bs) with
    |false=>rw[e2] at k;exact k _ (ay.refl _)
    |true=>rw[e2] at k;exact k _ (ay.refl _)
  ·have x:=x.ext J
   have lf:((rT.filter (mF n)).map λp=>bT n (some p.length) none).length<=4:=by rw[aW];exact mJ _ _
   unfold rU at k;generalize (rT.filter (mF n)).map (λp=>bT n (some p.length) none)=ts at x k lf;cases e:yd n with
   |false=>rw[e,show(bif false then[bT n (some 13) (some (-5))] else[])=[] from rfl,eB] at k;exact sk (sn (k _ x))
   |true=>rw[e,show(bif true then[bT n (some 13) (some (-5))] else[])=[bT n (some 13) (some (-5))] from rfl,cF] at k;k_in;refine lb (x.o 0 rfl) (aS rfl rfl (rP (r:=bT n (some 13) (some (-5))) rfl (bL H) (lg (x.o 0 rfl) ⟨by rw[aW];exact bL (aw (by assumption) dc),sk (sn (k _ (x.dt _)))⟩)))
 refine D λY x=>?_;clear D;have lt:(rU n).length<=5:=by
  unfold rU;rw[bR,aW];have h1:(rT.filter (mF n)).length<=4:=mJ _ _;have L:(bif yd n then[bT n (some 13) (some (-5))] else[]).length<=1:=by cases yd n<;>first|exact cI _|exact dE 1
  exact Gr (by assumption) (by assumption) dc
 have N:=List.isPerm_iff.mp (V h1).1;refine⟨i,rU n,rfl,x.o 0 rfl,gG (by assumption) dc,λt m=>ry (bL (N6 M N.symm (cf (V L).2)|>.2 t (N.mem_iff.mp m))),tO.aa (τ:=(i,_)::τ) x,λg out z T' hσ hp ho hz=>(ai (St.tX (τ:=(i,_)::τ) x tO T' hσ (λy m o=>by
  rcases d4.mp m with rfl|m
  ·exact(λh=>by injection h)
  ·exact nr y m o)) λrS tO' x=>Ka (N6 M hp ho) λadv hl=>?_)⟩;subst adv
 refine cQ (AH.a9 ..) ?_;have x:=(x.drop.ext (ay.set hz (.list ((kF n).map .str))));have A:=AH.a9 g z (.list ((kF n).map .str));generalize g.set z _=Y at x A;have N7:∀{g},ay Y g->Q (.str (oX aV n (kF n))) g:=λe=>B (F0 aV n jn:oX aV n (kF n)=jN aV n jn) (k _ rS tO' (x.ext e));refine eu (ι:=Option PV×Option PV) .str (λv=>L1 (.ref u) (L1 (.str n) (L1 (.ref i) (Lo y (Lo v.1 (Lo v.2 [])))))) (λr g=>oX aV n r=oX aV n (kF n)/\ay Y g/\∀t∈r,t.length<=1000) (λp g=>p=.str (oX aV n (kF n))/\ay Y g)
  (λt r v g K j I kr=>?_) (λO O j=>j.2.1 _ _ A) (λv g j=>?_) (λp ρ g j=>by refine Ka j λw4 e=>?_;subst w4;exact N7 e) (kF n) (none,none) Y (aS rfl (ay.refl _) hl)
 ·refine dD j λs e1 j3=>⟨bl,?_⟩
  unfold xo;have s:(bif (g5 aV n t).isEmpty then t else oX aV n r)=_:=s;refine rz (g5 aV n t).isEmpty (λK k=>?_) λbX J=>?_
  ·z_go
   refine aS rfl dc (N3 C (j3 t bP) λd8 z D hz A=>cQ A ⟨bl,ib (nV λc=>!(c==n)&&(aV c).isSome) A _ [] (λv m K k=>?_) ?_⟩)
   ·refine ai (bJ.mp m) λc hc adw=>?_;subst adw
    have k:K (if(!(c==n)&&(aV c).isSome)=true then some (.str c) else none) _:=k;refine⟨bl,dB rfl (aE rfl ?_)⟩;cases e:c==n with
    |true=>rw[e] at k;exact k
    |false=>
     rw[e,Bool.not_false,uW] at k;refine gR rfl (aE (Mp ((λg (e:ay Y g)=>(x.ext e).om (r8 _ ht)) _ (e1.trans D)) (t9 _)) ?_);rw[hV c];cases e5:(aV c).isSome with
     |true=>rw[e5] at k;exact k
     |false=>rw[e5] at k;exact k
   ·rw[gH,show((iW t).map PV.str).filterMap (nV λc=>!(c==n)&&(aV c).isSome)=(g5 aV n t).map PV.str from xZ _ _]
    refine⟨by rw[aW];exact bL (aw (mJ _ _) dc),λz2 oz=>⟨cI _,λz4 G=>aE (Be (fg G (AH.a9 ..)) (AH.a9 ..) λq=>?_) ?_⟩⟩
    ·rw[←q,AH.a9] at G;injection G
    ·rw[aW]
     have k:=k _ (D.trans ((ay.set oz (.list ((g5 aV n t).map .str))).trans (ay.set G (.list []))));cases e:g5 aV n t with
     |nil=>rw[e] at k;exact k
     |cons O O=>rw[e] at k;exact k
  ·cases e:(g5 aV n t).isEmpty with
   |true=>rw[e] at s;exact ie (kr _ _ _ ⟨br PV.str s,e1.trans J⟩) vr
   |false=>rw[e] at s;exact sk (sn (I (some (.str t),v.2) _ (aS s (e1.trans J) (λt m=>j3 t (cn _ m)))))
 ·refine dD j λe e1 O=>?_
  unfold xn;z_go;have:=N7 e1;rw[←e] at this;exact this
end
theorem F4:eI.all (λn=>((jn.all λy=>!jM n y||(iW (gZ n y)).filter (·==n)==[n])&&((iW n).filter (·==n)==[n]&&(iW n).all λc=>(c==n||!Un.contains c)&&(rI c&&!lr c)))&&Nat.ble n.length 1000)=true:=by kernel_rfl
def Bm (aV:Lm) (t:Bs):List Bs:=(iW t).filter λc=>(aV c).isSome
theorem N8 (h:g5 aV n t=[])(e:(iW t).filter (·==n)=[n]):Bm aV t=if(aV n).isSome=true then[n] else[]:=by
 have key:Bm aV t=(iW t).filter λc=>(c==n)&&(aV n).isSome:=List.filter_congr λc m=>by
  cases q:c==n with
  |true=>refine B (bG.mp q) ?_;rfl
  |false=>
   cases v:(aV c).isSome with
   |false=>rfl
   |true=>have:=BD.mp h c m;rw[q,v] at this;exact absurd rfl this
 rw[key];cases(aV n).isSome with
 |true=>refine B (aG rfl) (Eq.trans (List.filter_congr λc O=>?_) e);rw[Bool.and_true]
 |false=>refine B (aH dz) ?_;exact BD.mpr λc O=>by rw[Bool.and_false];exact dz
inductive N9 (aV:Lm)(n t:Bs):Prop
 |mk (b:Bm aV t=if(aV n).isSome=true then[n] else[]) (a:∀c∈iW t,nQ c/\lr c=false) (len:t.length<=1000)
theorem Oa (g:∀c,(aV c).isSome=true->c∈Un)(b:n∈eI):∀r:List (Bs×Bs),(∀y∈r,y∈jn)->N9 aV n (jN aV n r)
 |[],_=>by
  have h:=V (bI.mp F4 n b);refine Ka (V (V h.1).2) λk d=>⟨N8 (BD.mpr λc m q=>?_) (bG.mp k),λc m=>?_,Nat.le_of_ble_eq_true h.2⟩
  ·have a:=(V (bI.mp d c m)).1
   refine Ka (V q) λl p=>?_;rw[cw l,Bool.false_or] at a;exact absurd (i6.mpr (g c p)) (by exact B (cw a) dz)
  ·have a:=(V (bI.mp d c m)).2
   exact⟨nR (V a).1,cw (V a).2⟩
 |y::r,i=>by
  refine(?_:N9 aV n (bif jM n y&&(g5 aV n (gZ n y)).isEmpty then gZ n y else jN aV n r));cases e:jM n y&&(g5 aV n (gZ n y)).isEmpty with
  |false=>exact Oa g b r λz m=>i z (cn _ m)
  |true=>refine Ka (V e) λe1 e2=>?_;have j:=i y bP;have h:=bI.mp (V (V (bI.mp F4 n b)).1).1 y j;have f:=bI.mp (bI.mp NI n b) y j;rw[e1] at h f;refine⟨N8 (uO.mp e2) (bG.mp h),λc m=>?_,aw (uj _ _ _) (Nat.le_of_ble_eq_true (V (bI.mp F4 n b)).2)⟩;have a:=bI.mp f c m;exact⟨nR (V a).1,cw (V a).2⟩
theorem Ob:∀l:List Bs,sM (List.zipWith (eS Y n) (l.map .str) (l.map .str))=some true
 |[]=>rfl
 |a::r=>by rw[c3,List.zipWith_cons_cons,show eS Y n (.str a) (.str a)=some (a==a) by cases n<;>rfl,ej];refine(?_:(sM (List.zipWith (eS Y n) (r.map .str) (r.map .str))).map _=_);rw[Ob r];rfl
theorem F5 (l:List Bs):kQ (eS Y n) (l.map .str) (l.map .str)=some true:=by unfold kQ;rw[Ob,ej];rfl
theorem adx {l:List Bs}(c:Y a=some (.list (l.map .str)))(d:Y b=some (.list (l.map .str)))(n:a≠b):dG Y .ne (.ref a) (.ref b)=some false:=by refine(?_:(if a=b then none else dq (λe=>dq (λf=>kQ (eS Y 3) e f) none (Y b)) none (Y a)).map _=_);rw[aH n,kc c,kc d,F5];rfl
theorem ady {l:List Bs}(c:Y a=some (.list (l.map .str)))(d:Y b=some (.list (l.map .str)))(n:a≠b):dG Y .eq (.ref a) (.ref b)=some true:=by refine(?_:(if a=b then none else lS _ _ (Y a))=_);refine B (aH n) (B c ?_);refine(?_:(if a=b then none else dq (λe=>dq (λf=>kQ (eS Y 3) e f) none (Y b)) none (Y a))=_);rw[aH n,kc c,kc d,F5]
inductive Bn (d s h f c l:Addr)(g:Obj)(k:List PV)(aV:Lm)(i:List Bs)(b:Nat)(Y:AH):Prop
 |mk (a:iV) (F:bH) (A:Lm) (L:List (Bs×Nat)) (tO:nZ a) (j:lu d F ((s,bZ d)::(h,.list (i.map .str))::(l,.ro g k)::a) f c b Y) (r:Rf A L F) (m:fi F) (n:F (gp c9++cz)=none) (e:bt A L=aV)
theorem adz {F:bH}(r:Rf A L F)(h:(bt A L c).isSome=true):c∈Un:=by
 obtain⟨O,a,O,lk⟩:=r;unfold bt at h;cases e:A c with
 |some v=>exact(a c v e).1
 |none=>
  rw[e] at h;cases e2:L.lookup c with
  |none=>rw[e2] at h;injection h
  |some k=>exact lk _ (A9 e2)
section
variable (C:Ck a)
include C
theorem adA (w:Bn d s M G p l ob xs aV i (b+1) Y)(hV:∀c,i.any (·==c)=(aV c).isSome)(k:∀f,Bn d s M G p l ob xs aV i b f->Q (.bool true) f):a false (.bK 7) [.ref G,.ref s,.ref M] Q X Y:=by
 obtain⟨J,F,A,L,tO,⟨H,m,t,u,x,ht,D⟩,r,nk,pl,rfl⟩:=w;refine aZ Z6 C ?_;w_up;k_in;refine⟨dc,N2 C λcN z e1 hz ez=>⟨dc,?_⟩⟩;have x:St d F ((G,jO H p m t)::(p,gB u)::(z,.list (eI.map .str))::(s,bZ d)::(M,.list (i.map .str))::(l,.ro ob xs)::J) cN:=((x.oS e1 hz ez).aX 2 rfl).aX 2 rfl;refine N1 C ⟨H,m,t,u,x,ht,D⟩ bP (λh=>by injection h) dc λY n hn j=>⟨bl,?_⟩;obtain⟨H,m,t,u,x,ht,D⟩:=j;have x:St d F ((G,jO H p m t)::(p,gB u)::(s,bZ d)::(M,.list (i.map .str))::(l,.ro ob xs)::J) Y:=(x.aX 2 rfl).drop;refine mu (c8 (acs C (x.aX 2 rfl) r hn λcN e1=>⟨bl,?_⟩) vr (x.o 2 rfl) (Internal.e1 vr));have x:=x.ext e1;refine fR λK kt I=>?_;z_go;refine⟨dc,ads C (τ:=[_,_,_,_,_]) x tO (λy m o=>?_) (cn _ (cn _ (cn _ bP))) hV hn λY J tO x=>?_⟩
 ·simp only[List.mem_cons,List.not_mem_nil,or_false] at m
  rcases m with rfl|rfl|rfl|rfl|rfl<;>exact(λh=>by injection h)
 obtain⟨met,F6,len⟩:=(Oa (λc h=>adz r h) hn jn λO m=>m);revert kt I met F6 len;refine BG (jN (bt A L) n jn) λtx kt I met F6 len=>?_;refine aE rfl (gW (br Bool.not (ej tx)) ⟨rfl,dc,Fv C len λcN z1 x1 hz1 ez1=>(Mo ez1 (bl) λz2 oz=>⟨dc,N3 C len λbX z3 x3 FP ez3=>aE (adx (x3 _ _ (AH.a9 ..)) ez3 λq=>nn (q▸FP) (AH.a9 ..)) (I _ (sk ?_))⟩)⟩);have x:=((x.ext x1).ext (ay.set oz _)).ext x3;clear kt I;k_in;refine⟨rfl,dc,Fv C len λd8 z4 x4 NH Oc=>cQ Oc ⟨bl,?_⟩⟩;have x:=x.ext x4;refine xv (nV λc=>(bt A L c).isSome) (σ₀:=d8) (λY e=>e _ _ Oc) _ [] d8 (ay.refl _) (λv m j8 K N k=>?_) λj8 N=>?_
 ·refine ai (bJ.mp m) λc D adD=>?_;subst adD
  have k:∀f,ay j8 f->K (if(bt A L c).isSome=true then some (.str c) else none) f:=k;refine Ka (F6 c D) λfc lc=>?_;have x:=x.ext N;refine⟨bl,dB rfl (cX (x.o 2 rfl) rfl rfl dc (NA C (x.aX 2 rfl) r fc lc λoH x5=>?_))⟩;cases e5:(bt A L c).isSome with
  |true=>rw[e5] at k;exact k _ x5
  |false=>rw[e5] at k;exact k _ x5
 rw[gH,show((iW tx).map PV.str).filterMap (nV λc=>(bt A L c).isSome)=(Bm (bt A L) tx).map PV.str from xZ _ _,met,←hV n];refine⟨by split<;>exact bl,λz5 hz5=>⟨bl,?_⟩⟩;have x:=(x.ext N).ext (ay.set hz5 (.list ((if(i.any λx=>x==n)=true then[n] else[]).map .str)));k_in;refine aE (Mp (x.o 3 rfl) (t9 _)) ?_;have U:∀f,ay _ f->Q (.bool true) f:=λf e=>k f ⟨J,F,A,L,tO,⟨H,m,t,u,x.ext e,ht,D⟩,r,nk,pl,rfl⟩;clear x;revert U;refine BG (i.any (·==n)) λbb U=>?_;cases bb with
 |true=>exact⟨bl,λz6 g=>aE (ady (l:=[n]) (fg g (AH.a9 ..)) (AH.a9 ..) λq=>nn (q▸g) (AH.a9 ..)) (U _ (ay.set g _))⟩
 |false=>exact⟨cI _,λz6 g=>aE (Be (fg g (AH.a9 ..)) (AH.a9 ..) λq=>nn (q▸g) (AH.a9 ..)) (U _ (ay.set g _))⟩
end
theorem adF (R:ι->aP)(J:Nat->AH->Prop)
  (h:∀(m:Nat) (y:ι) (Y:AH) (K:Fl->aP->AH->Prop),J m Y->(∀c d f,c<m->J c f->K .next (R d) f)->(∀p a Y,Q (.ret p) a Y->K (.ret p) a Y)->g (R y) Y λb Y=>if b then H (R y) Y K else Q .next (R y) Y) (m:Nat) (y:ι) (Y:AH) (j:J m Y):vV g H Q (R y) Y:=
 ⟨λm a Y=>∃y,a=R y/\J m Y,m,⟨y,rfl,j⟩,λm a Y ⟨y,e,j⟩=>by exact B e (h m y Y _ j (λc d f l i=>aQ c l (aQ d rfl i)) λO O O h=>h)⟩
theorem adG (h:vV (λa Y K=>T C e d q c (W C e d q c) a K (λc t=>X c t a) Y) (λa Y K=>Ss C e d q b a K X Y) (gf C e d q r Q X) a Y):Ss C e d q (.cons (.vM c b) r) a Q X Y:=h
noncomputable def mG (a:List (Bs×Vl)):Lm:=λn=>a.lookup n
def dC (a:List (Bs×Vl)):List (PV×PV):=eY Vl.pv a
inductive EdJ (a:AH)(z:Addr)(aV:Lm)(c:Option (List Bs×Option Nat))(m:Nat)(Y:AH):Prop
 |mk (ns:List Bs) (l:Bs) (x:Nw a [(z,.list (ns.map .str))] Y) (b:ns.getLastD []=l) (f:ns≠[]) (d:ns.length+m=6) (e:c=ch aV (m+1) ns l)
section
variable (C:Ck a)
include C
theorem adI (i:Y q=some (.dict L (dC b)))(u:∀ns o h z,ch (mG b) 6 [n] n=some (ns,o)->Nw Y [(z,.list (ns.map .str))] h->Q (.av [.ref z,ov o]) h)(D:ch (mG b) 6 [n] n=none->∀h,ay Y h->Q .none h):a false (.bK 9) [.ref q,.str n] Q X Y:=by
 refine aZ Z8 C ?_;w_up;k_in;refine⟨bl,(Nw.refl Y).bw λz d x O=>⟨bl,adG (adF (ι:=Unit) (λO=>L1 (.ref q) (L1 (.str n) (L1 (.ref z) []))) (EdJ Y z (mG b) (ch (mG b) 6 [n] n)) (λm O d K j G U=>?_) 5 () d ⟨[n],n,x,rfl,sd _ _,rfl,rfl⟩)⟩⟩;obtain⟨ns,l,x,w,y,p,e⟩:=j;have i:=x.ext _ _ i;have c:=xY (x.o 0 rfl) y;rw[w] at c;have e:_=(match(mG b) l with|none=>some (ns,none)|some (.id k)=>some (ns,some k)|some (.cq t)=>ch (mG b) m (ns++[t]) t):=e;have f:oq d (.str l) (.ref q)=some (b.lookup l).isSome:=(lh i (ig _ _ _)).trans (br some (FF _ _ _));z_go;refine aE c (aE f ?_);cases g:b.lookup l with
 |none=>rw[show mG b l=_ from g] at e;rw[g] at f;refine jJ ?_;k_in;exact aE c (aE f (jJ ⟨bl,u ns none d z e x⟩))
 |some v=>
  rw[show mG b l=_ from g] at e;rw[g] at f;have r:ix d (.ref q) (.str l)=some v.pv:=gQ i (ig _ _ _) (by unfold dC;rw[oW,g];rfl);refine oQ (aE c (aE r ?_));cases v with
  |id A=>refine aE rfl (aE rfl (dB rfl (dB rfl ?_)));k_in;exact aE c (aE f (oQ (aE c (aE r (aE rfl ⟨bl,u ns (some A) d z e x⟩)))))
  |cq t=>
   refine aE rfl (aE rfl (gR rfl ?_));refine fR λJ I H=>?_;z_go;have s:ns.length<=1000:=aw (p▸gn _ _) (by decide:6<=1000);refine⟨rfl,aE (Fu (x.o 0 rfl) (aW _) (bL s)) ?_⟩;z_go;cases m with
   |zero=>exact B (f3 (f5.mpr (Nat.lt_of_lt_of_eq (n5 5) (p.symm:6=ns.length))):decide (((ns.length:Nat):Int)>5)=true) (I _ (ie (U _ _ _ (D e _ x.ext)) vc))
   |succ m=>rw[show decide (((ns.length:Nat):Int)>5)=false from iM (jv.mpr (i7.mpr (Nat.le_of_add_le_add_right (b:=1) (aw (jQ (fZ (cI m)) _) (ju p)))))];refine H _ (sk (ee (qe ?_ vr (x.o 0 rfl) (e1 (vi (vi vr (vi vr (vn vc) c) r) vc)))));have x:=x.dt (.list ((ns++[t]).map .str));rw[cF] at x;refine⟨by rw[aW];exact bL s,sn (G m () _ (n5 m) ⟨ns++[t],t,by refine B cF ?_;exact x,List.getLastD_concat ..,by simp,by refine B List.length_append ?_;exact(Nat.add_right_comm _ _ _).trans p,e⟩)⟩
end
theorem adJ (o:Option Nat):dG Y .eq (ov o) (ov o)=some true:=by
 cases o with
 |none=>rfl
 |some k=>show some (cC k==cC k)=_;rw[ej]
theorem adK (l:Bs)(o:Option Nat):dG Y .eq (.av [.str l,ov o]) (.av [.str l,ov o])=some true:=by
 cases o with
 |none=>show some (((l==l)&&(true&&true))&&true)=_;refine B (ej l:(l==l)=true) ?_;rfl
 |some k=>show some (((l==l)&&((cC k==cC k)&&true))&&true)=_;refine B (ej l:(l==l)=true) (B (ej _:(cC k==cC k)=true) ?_);rfl
theorem adL (l:i<a.length)(k:∀z,Y z=none->Ss C e d true b (a.set i (some (.ref z))) (λf a Y=>Q f (a.set i none) Y) (λO O O O=>False) (Y.set z (.bc c [(.dp,t)]))):Sh C e d c t (.cons c (some i) b r) a Q X Y:=by refine(?_:(if c=c then _ else _));exact B (aG rfl) ⟨l,k⟩
section
variable (C:Ck c){F:bH}(x:St d F ((s,bZ d)::f) Y)(r:Rf A L F)(b:iL n)
include C x r b
theorem Od (q:∀ns o a z,ch (bt A L) 6 [n] n=some (ns,o)->Y z=none->ay Y a->a z=some (.list (ns.map .str))->Q (.av [.ref z,ov o]) a)(t:ch (bt A L) 6 [n] n=none->∀a,ay Y a->Q (.str n) a):c false (.bK 10) [.ref s,.str n] Q X Y:=by
 refine aZ Z9 C ?_;w_up;refine sc (sc (c8 (xX C x r b (λns o w z h y=>?_) λe w u=>?_) vr (x.o 0 rfl) (e1 vr)))
 ·refine gm rfl rfl (bl) (bl) (tn (sk ?_))
  have x:=x.ext y.ext;have m:=Bb (sd _ _) h;k_in;refine⟨rfl,cX (x.o 0 rfl) rfl rfl dc (acf C x r b h λH g=>aE rfl ⟨bl,?_⟩)⟩;have j:=g _ _ (y.o 0 rfl);have x:=x.ext g;k_in;refine aE (xY j m) ⟨bl,aE (adK _ _) ?_⟩;z_go;refine cX (x.o 0 rfl) rfl rfl dc (acg C x r b h λD l=>aE (adJ o) ?_);z_go;refine⟨rfl,Mo (l _ _ j) (by rw[aW];exact bL (aw (NJ h) (bl))) λv k=>⟨bl,?_⟩⟩;have i:=(y.ext.trans g).trans l;exact q ns o _ v h (i.none k) (i.trans (ay.set k _)) (AH.a9 ..)
 ·exact adL (bl) λz p=>ie (t e _ (u.trans (ay.set p _))) (va vr (AH.a9 ..))
theorem adM (h:ch (bt A L) 6 [n] n=some (ns,o))(g:∀a z,Y z=none->ay Y a->a z=some (.list (ns.map .str))->Q (.av [.ref z,ov o]) a):c false (.bK 10) [.ref s,.str n] Q X Y:=
 Od C x r b (λi j a z e=>by cases h.symm.trans e;exact g a z) λe=>nn e h
theorem adN (h:ch (bt A L) 6 [n] n=none)(g:∀a,ay Y a->Q (.str n) a):c false (.bK 10) [.ref s,.str n] Q X Y:=Od C x r b (λO O O O e=>nn h e) λO=>g
end
noncomputable def jo:Nat->cS->cS
 |0,b=>b
 |m+1,b=>match b with|.cons _ r=>jo m r|.nil=>.nil
noncomputable def gC (M:Nat):List Bs:=(List.range (M+1)).map nX
noncomputable def jq (l:List Nat):List (Bs×Vl):=l.map λk=>(nX k,.cq (nX (k+1)))
def qp (M a:Nat):List (Bs×Vl):=if a=0 then bg (jq (List.range M)) (nX M) (.id 3) else jq (List.range M)
def kG (M a:Nat):List (Bs×Vl):=if a=2/\1<M then bg (qp M a) (nX (M-1)) (.cq (nX 0)) else qp M a
theorem adO (h:nX a=nX b):a=b:=by have:=List.append_cancel_left h;simp only[List.cons.injEq,and_true,true_and] at this;exact Nat.add_left_cancel this
theorem Oe:(List.range 9).all (λk=>[114,101,102,115,47,115,47,120]++y6 k==nX k)=true:=by kernel_rfl
theorem F7 (h:M<=8):M+1<=1000:=Nat.le_trans (Nat.succ_le_succ h) dc
theorem F8 (i:Nat):(0+1*(i:Int)).toNat=i:=by rw[Int.zero_add,Int.one_mul];rfl
theorem F9 {M:Nat}:jz 0 M 1=(List.range M).map λk=>.int (0+1*k):=by unfold jz;rw[show(((M:Int)-0+1-1)/1).toNat=M by rw[Int.sub_zero,Int.add_sub_cancel,Int.ediv_one];rfl]
theorem uz {M k:Nat}(e:Y z=some (.list ((gC M).map .str)))(h:k<=M)(a:M<=8){i:Int}(b:i=k):ix Y (.ref z) (.int i)=some (.str (nX k)):=by
 refine B b (ET (j:=k) e ?_ ?_)
 ·unfold gC;rw[aW,aW,kJ];exact N0 (uN h) (F7 a)
 ·unfold gC;refine B (eZ) (B (eZ) (B (List.getElem?_range (uN h)) ?_));rfl
theorem adP (h:i∉l):fx (dC (jq l)) (.str (nX i)) (Vl.cq (nX (i+1))).pv=dC (jq (l++[i])):=by
 unfold dC;rw[rK];unfold bg;have e:(jq l).lookup (nX i)=none:=xR λy m q=>by refine ai (bJ.mp m) λk b a=>?_;subst a;exact h (adO q▸b)
 refine B e ?_;unfold jq;refine B cF ?_;rfl
theorem Ga (P:AH->Prop)(h:∀K:Fl->aP->AH->Prop,(∀Y,P Y->K .next a Y)->Ss C c b q (.cons s .nil) a K X Y)(k:∀Y,P Y->Ss C c b q r a Q X Y):Ss C c b q (.cons s r) a Q X Y:=by
 have e:(λ(f:Fl) (a:aP) (Y:AH)=>match f with|.next=>Ss C c b q .nil a (gf C c b q r Q X) X Y|f=>gf C c b q r Q X f a Y)=λ(f:Fl) (a:aP) (Y:AH)=>match f with|.next=>Ss C c b q r a Q X Y|f=>Q f a Y:=funext λf=>by cases f<;>rfl
 exact(br (λK=>S C c b q s a K X Y) e).mp (h (gf C c b q r Q X) k)
section
variable (C:Ck a){F:bH}
include C
theorem adQ (j:lu d F I z p 3 Y)
  (k:∀n (M g:Nat) u w H v,M<=8->g<=2->lu d F ((u,.dict H (dC (kG M g)))::(w,.list ((gC M).map .str))::I) z p 1 n->Ss a a6 28 false (jo 5 nG) (L1 (.ref z) (L1 (.ref d) (L1 (.int M) (L1 (.int g) (L1 (.ref u) (L1 (.ref w) (Lo v (List.replicate 8 none)))))))) (cj Q) (h8 X) n):a false (.bK 11) [.ref z,.ref d] Q X Y:=by
 refine aZ aaa C ?_;unfold nG at k⊢;w_up;k_in;refine⟨dc,qn C j dc λY r h0 h1 j=>?_⟩;obtain⟨M,rfl⟩:=uI h0;refine⟨dc,qn C j dc λY r i0 i1 j=>?_⟩;obtain⟨g,rfl⟩:=uI i0;have c:M<=8:=yz (f5.mp (h1:(M:Int)<(9:Nat)));obtain⟨H,m,t,G,x,ht,hc⟩:=j;refine λb=>x.bw λu Y x=>yh (bl) rfl rfl (bl) (bl) (bl) ?_;k_in;refine⟨rfl,h9 ⟨(cZ ⟨dc,dc⟩ ⟨dc,dc⟩ ((Gs c dc).1) ((Gs c dc).2)),?_⟩⟩;have ls:((List.range (M+1)).map λ(k:Nat)=>PV.int (0+1*k)).length<=aI:=by rw[aW,kJ];exact bL (F7 c)
 refine B (F9 (M:=M+1)) ⟨ls,ib (λv=>v.cu (λi=>some (.str (nX i.toNat))) none) trivial _ [] (λv m K k=>?_) ?_⟩
 ·obtain⟨i,A,rfl⟩:=bJ.mp m
  have A:=ik.mp A;have k:K (some (.str (nX (0+1*(i:Int)).toNat))) _:=k;refine aS (bl) rfl (aE (r:=.str (y6 i)) ?_ (qb ?_ ?_))
  ·show(if _ then some (PV.str (y6 (0+1*(i:Int)).toNat)) else none)=_
   exact B (aG (by rw[Int.zero_add,Int.one_mul];exact⟨fH i,f5.mpr (lG A (aw (fZ c) dc))⟩)) (B (F8 i) rfl)
  ·have:=bI.mp Oe i (ik.mpr (lG A (fZ c)))
   exact az bR (B (bG.mp this) (bl))
  ·have:=bI.mp Oe i (ik.mpr (lG A (fZ c)))
   rw[F8] at k;exact B (bG.mp this) k
 rw[gH,show((List.range (M+1)).map λ(k:Nat)=>PV.int (0+1*k)).filterMap (λv=>v.cu (λi=>some (PV.str (nX i.toNat))) none)=(gC M).map .str by unfold gC;refine B cV ?_;exact FI λi O=>by show some (PV.str (nX (0+1*(i:Int)).toNat))=_;rw[F8 i];rfl];refine⟨by unfold gC;rw[aW,aW,kJ];exact bL (F7 c),x.bw λw Y x=>⟨bl,?_⟩⟩;have x:St d F ((u,.dict b (dC (jq [])))::(w,.list ((gC M).map .str))::(z,jO H p m t)::(p,gB G)::I) Y:=x.aX 1 rfl;refine dX λK D=>?_;z_go;refine⟨(cZ ⟨dc,dc⟩ ⟨dc,dc⟩ ((vu c dc).1) ((vu c dc).2)),D _ _ _ ?_⟩;clear D;rw[F9];refine eu (ι:=Option PV) (λk:Nat=>PV.int (0+1*k)) (λy=>L1 (.ref z) (L1 (.ref d) (L1 (.int M) (L1 (.int g) (L1 (.ref u) (L1 (.ref w) (Lo y (L0 (L0 (L0 (L0 (L0 (L0 (L0 (L0 [])))))))))))))))
  (λr n=>∃s b,List.range M=s++r/\St d F ((u,.dict b (dC (jq s)))::(w,.list ((gC M).map .str))::(z,jO H p m t)::(p,gB G)::I) n) (λO O=>False)
  (λi r y n K j l O=>?_) (λO O O=>trivial) (λy n j=>?_) (λO O O f=>f.elim) (List.range M) none Y (gE [] b rfl x)
 ·obtain⟨s,b,e,x⟩:=j
  have A:i<M:=ik.mp (B e (fX _ bP));have ld:s.length<=8:=by have:=br List.length e;rw[bR,kJ] at this;lia
  have ni:i∉s:=λq=>by exact(kI.mp (e▸List.nodup_range)).2.2 i q i bP rfl
  refine⟨bl,?_⟩;k_in;exact h9 (aE (uz (x.o 1 rfl) (Nat.succ_le_of_lt A) c (by lia)) ⟨bl,aE (uz (x.o 1 rfl) (ip A) c (by lia)) (jh (x.o 0 rfl) (aS (ig _ _ _) (by unfold dC eY jq;rw[aW,aW];exact bL (aw bW dc)) (λU=>B (adP ni:fx (dC (jq s)) (.str (nX i)) (.av [.str [115,121,109],.str (nX (i+1))])=dC (jq (s++[i]))) (sn (l _ _ (gE (s++[i]) U (by rw[e,e6];rfl) (x.dt _)))))))⟩)
 obtain⟨s,b,e,x⟩:=j;rw[eB] at e;subst e;refine tn ?_;have L:∀r:List (Bs×Vl),r.length<=10->(dC r).length<=aI:=λr h=>by unfold dC eY;rw[aW];exact bL (aw bW dc)
 have l1:(jq (List.range M)).length<=8:=by unfold jq;rw[aW,kJ];exact c
 refine Ga (λn=>∃b,St d F ((u,.dict b (dC (qp M g)))::(w,.list ((gC M).map .str))::(z,jO H p m t)::(p,gB G)::I) n) (λK l=>?_) λY j=>?_
 ·refine fR λN J D=>dK (b:=((g:Int)==0)) ?_ (tq (vq vr vc))
  unfold qp at l;cases e:((g:Int)==0) with
  |true=>rw[aG (Int.ofNat.inj (bG.mp e))] at l;refine J _ ?_;k_in;refine⟨dc,yc C (n:=3) dc λcN x1=>⟨bl,?_⟩⟩;have x:=x.ext x1;exact aE (uz (x.o 1 rfl) (dE M) c rfl) (jh (x.o 0 rfl) (aS (ig _ _ _) (L _ (aw bW dc)) (λU=>sk (sn (l _ ⟨U,B (rK Vl.pv _ _ (.id 3):fx (dC (jq (List.range M))) (.str (nX M)) (.av [.str [105,100],.bytes (cC 3)])=dC (bg (jq (List.range M)) (nX M) (.id 3))) (x.dt _)⟩)))))
  |false=>rw[aH λq=>eA.mp e (br Int.ofNat q)] at l;exact D _ (sk (sn (l _ ⟨b,x⟩)))
 obtain⟨b,x⟩:=j;have l2:(qp M g).length<=9:=by
  unfold qp;split
  ·exact aw (xE _ _ _) (fZ bW)
  ·exact lH bW
 refine Ga (λn=>∃b,St d F ((u,.dict b (dC (kG M g)))::(w,.list ((gC M).map .str))::(z,jO H p m t)::(p,gB G)::I) n) (λK l=>?_) λY j=>?_
 ·refine fR λN J D=>oR (dK (b:=((g:Int)==2)) ?_ (tq (vq vr vc)))
  unfold kG at l;cases e:((g:Int)==2) with
  |false=>rw[aH λq=>eA.mp e (br Int.ofNat q.1)] at l;exact D _ (sk (sn (l _ ⟨b,x⟩)))
  |true=>
   refine qd (dK (b:=decide ((M:Int)>1)) ?_ (tq (vq vr vc)));cases e2:decide ((M:Int)>1) with
   |false=>rw[aH λq=>yt e2 (f5.mpr q.2)] at l;exact D _ (sk (sn (l _ ⟨b,x⟩)))
   |true=>rw[aG ⟨Int.ofNat.inj (bG.mp e),(f5.mp (cf e2))⟩] at l;refine J _ ?_;k_in;exact aE (uz (x.o 1 rfl) (cI M) c rfl) ⟨bl,EU (aE (uz (x.o 1 rfl) (Nat.sub_le M 1) c (by lia)) (jh (x.o 0 rfl) (aS (ig _ _ _) (L _ (lH bW)) (λU=>sk (sn (l _ ⟨U,B (rK Vl.pv _ _ (.cq (nX 0)):fx (dC (qp M g)) (.str (nX (M-1))) (.av [.str [115,121,109],.str (nX 0)])=dC (bg (qp M g) (nX (M-1)) (.cq (nX 0)))) (x.dt _)⟩))))))⟩
 obtain⟨b,x⟩:=j;exact k Y M g u w b y c (yz (f5.mp (i1:(g:Int)<(3:Nat)))) ⟨H,m,t,G,(x.aX 2 rfl).aX 3 rfl|>.aX 1 rfl,ht,hc⟩
end
noncomputable def g8:List Bs:=(List.range 9).map nX
def Bo (v:Vl):Bool:=match v with|.id k=>k==3|.cq t=>g8.contains t
theorem adR:(List.range 9).all (λM=>(List.range 3).all λa=>decide ((kG M a).map (·.1)).Nodup&&(kG M a).all λy=>g8.contains y.1&&Bo y.2)=true:=cA
theorem Of:g8.all (λc=>Un.contains c&&Nt.contains c)=true:=by kernel_rfl
inductive RoP (a:List (Bs×Vl)):Prop
 |mk (b:(a.map (·.1)).Nodup) (ok:∀y∈a,y.1∈g8/\Bo y.2=true)
theorem Og (b:M<=8)(c:a<=2):RoP (kG M a):=by have h:=bI.mp (bI.mp adR M (ik.mpr (fZ (by assumption)))) a (ik.mpr (fZ (by assumption)));exact⟨cf (V h).1,λy m=>⟨i6.mp (V (bI.mp (V h).2 y m)).1,(V (bI.mp (V h).2 y m)).2⟩⟩
theorem uA (h:c∈g8):c∈Un/\c∈Nt:=⟨List.contains_iff_mem.mp (V (List.all_eq_true.mp Of c h)).1,List.contains_iff_mem.mp (V (List.all_eq_true.mp Of c h)).2⟩
noncomputable def rV (a:List (Bs×Vl))(aV:Lm):Lm:=λc=>(a.lookup c).or (aV c)
theorem Oh (A:Lm)(L:List (Bs×Nat))(m:Bs)(v:Vl):bt (fU A m (some v)) L=fU (bt A L) m (some v):=funext λn=>by
 unfold bt fU;by_cases q:n=m
 ·refine B (aG q) (B (aG q) ?_);rfl
 ·exact B (aH q) (B (aH q) rfl)
theorem adT (h:a.lookup y.1=none):fU (rV a aV) y.1 (some y.2)=rV (a++[y]) aV:=funext λc=>by
 unfold fU rV;refine B uL (B d0 ?_);by_cases q:c=y.1
 ·rw[aG q,q,h,ej];rfl
 ·refine B (aH q) (B (eA.mpr q) ?_)
  cases a.lookup c<;>rfl
inductive Gb (d s c g:Addr)(b:Nat)(f:List (Bs×Vl))(M:Nat)(aV:Lm)(L:List (Bs×Nat))(h:iV)(a:List (Bs×Vl))(Y:AH):Prop
 |mk (F:bH) (A:Lm) (x:St d F ((s,bZ d)::(c,.dict b (dC f))::(g,.list ((gC M).map .str))::h) Y) (r:Rf A L F) (i:fi F) (j:F (gp c9++cz)=none) (e:bt A L=rV a aV)
theorem Oi (h:aV n=none):pn aV n (.id k)=some n:=by unfold pn;refine B (aH (by exact dz)) (?_:(match aV n with|none=>some (([n]:List Bs),(none:Option Nat))|some (.id k)=>some ([n],some k)|some (.cq t)=>ch aV 5 ([n]++[t]) t).map _=_);refine B h ?_;rfl
theorem adU (C:Ck g){F:bH}(x:St d F ((s,bZ d)::U) Y)(r:Rf A L F)(G:fi F)(h:uy n (.id k))(e:pn (bt A L) n (.id k)=some m)(l:m∈Un)
  (H:∀f,St d (di F (gp m) (Vl.id k).fF) ((s,bZ d)::U) f->Q .none f)
  (w:Ev ⟨g,b,false,X,p,Y⟩ o (.ref s)) (y:ji ⟨g,b,false,X,p,Y⟩ q [.str n,.bytes (cC k)]) (t:autoParam (a6 .qG<b) aD) (u:autoParam (a6 .jV<b) aD):W g a6 b false (.au o .apply (.cons (.list (.cons (.fv .ir q) .nil)) .nil)) p Q X Y:=by
 refine w _ (fA (x.o 0 rfl) rfl rfl ⟨rfl,y _ λc v=>⟨t,FR C (v:=.id k) (vs:=[]) (AH.a9 ..) rfl ⟨bl,λz j=>⟨u,?_⟩⟩⟩⟩);rw[AH.fh] at j⊢;exact FV C (((x.new v (fV n (.id k))).new j (.list [.ref c])).aX 2 rfl) r G h (λD a=>by have i:=bo (e.symm.trans a);exact az i ⟨l,nY l⟩) (λD f a=>by have i:=bo (e.symm.trans a);exact az i (H f)) (λa=>nn a e) (.inl rfl)
section
variable (C:Ck a){F:bH}
include C
theorem adV (x:St d F ((l,.dict I (dC (kG M i)))::(n,.list ((gC M).map .str))::τ) Y)(hM:M<=8)(hk:i<=2)(r:Rf A L F)(D:fi F)(N:F (gp c9++cz)=none)(hx:∀c∈g8,bt A L c=none)
  (k:∀b s v8,Gb d s l n I (kG M i) M (bt A L) L τ (kG M i) b->Ss a a6 28 false (jo 7 nG) (L1 (.ref w) (L1 (.ref d) (L1 (.int M) (L1 (.int i) (L1 (.ref l) (L1 (.ref n) (Lo v6 (L1 (.ref s) (Lo v8 (List.replicate 6 none)))))))))) (cj Q) (h8 X) b):
  Ss a a6 28 false (jo 5 nG) (L1 (.ref w) (L1 (.ref d) (L1 (.int M) (L1 (.int i) (L1 (.ref l) (L1 (.ref n) (Lo v6 (List.replicate 8 none)))))))) (cj Q) (h8 X) Y:=by
 unfold nG at k⊢;dsimp only[da.o,cS.o,fK.o,List.foldr,jo,Mq,Mr] at k⊢;obtain⟨H,ok⟩:=Og hM hk;generalize kG M i=m at x H ok k;k_in;refine⟨rfl,λs hs=>⟨dc,FQ C (AH.a9 ..) ⟨bl,?_⟩⟩⟩;rw[AH.fh];have x:=x.new hs (bZ d);refine dX λK U=>xA (ES (x.o 1 rfl) (U _ _ _ ?_)) vr;clear U;rw[show(dC m).map (·.1)=m.map λy=>PV.str y.1 by unfold dC eY;refine B cV ?_;rfl];refine eu (ι:=Option PV) (λy:Bs×Vl=>PV.str y.1) (λv=>L1 (.ref w) (L1 (.ref d) (L1 (.int M) (L1 (.int i) (L1 (.ref l) (L1 (.ref n) (Lo v6 (L1 (.ref s) (Lo v (L0 (L0 (L0 (L0 (L0 (L0 []))))))))))))))) (λr b=>∃p,m=p++r/\Gb d s l n I m M (bt A L) L τ p b) (λO O=>False)
  (λy rr v b K j kn O=>?_) (λO O j=>let⟨_,_,⟨_,_,x,_,_,_,_⟩⟩:=j;x.o 1 rfl) (λv b j=>?_) (λO O O f=>f.elim) m none _ (aQ [] rfl ⟨F,A,x,r,D,N,rfl⟩)
 ·refine ai j λp e adW=>?_;obtain⟨F1,A1,x,r,D,N,eV⟩:=adW
  obtain⟨c,v⟩:=y;have J:(c,v)∈m:=B e (fX _ bP);obtain⟨cx,G⟩:c∈g8/\Bo v=true:=ok _ J;refine Ka (uA cx) λg nt=>?_;have nc:p.lookup c=none:=xR λz mz q=>by rw[e,cF,c3] at H;exact(kI.mp H).2.2 z.1 (bJ.mpr (aQ z mz rfl)) c bP q
  have u:=gQ (u:=.str c) (r:=v.pv) (x.o 1 rfl) (ig _ _ _) (by unfold dC;rw[oW,jK H J];rfl);have Oj:v.ok:=by
   cases v with
   |id k=>exact B (bG.mp (G:(k==3)=true)) (.id dc)
   |cq t=>exact .cq (uA (i6.mp G)).2
  have done:∀b v',St d (di F1 (gp c) v.fF) ((s,bZ d)::(l,.dict I (dC m))::(n,.list ((gC M).map .str))::τ) b->K .next (L1 (.ref w) (L1 (.ref d) (L1 (.int M) (L1 (.int i) (L1 (.ref l) (L1 (.ref n) (Lo v6 (L1 (.ref s) (Lo v' (L0 (L0 (L0 (L0 (L0 (L0 []))))))))))))))) b:=λb v' x=>kn _ _ (aQ (p++[(c,v)]) (by rw[e,e6];rfl) ⟨_,_,x,r.set g Oj,D.set g _,(aH λq=>ya g q).trans N,by rw[Oh,eV];exact adT (y:=(c,v)) nc⟩);refine⟨bl,?_⟩;cases v with
  |id k0=>
   have e9:=bG.mp (G:(k0==3)=true);refine B e9 ?_;refine gh (λK k=>dK k (ta (tZ (tq (vq (vi (vi vr vr u) vc) vc)) (λh=>by injection h)))) (gh (λK k=>dK k (tq (vq (vi (vi vr vr u) vc) vc))) ?_);have eVc:bt A1 L c=none:=by refine B eV ?_;unfold rV;rw[nc,hx c cx];rfl
   exact ee (adU C x r D ⟨nY g,Oj,(λh=>by injection h)⟩ (Oi eVc) g (λb x=>sk (sk (sn (done b (some (.str c)) x)))) vr (e2 vr (vi (vi vr vr u) vc)))
  |cq t=>
   have tx:=uA (i6.mp G);refine fR λK' kt U=>oR (dK (b:=true) ?_ (tq (vq (vi (vi vr vr u) vc) vc)));refine qd (dK (b:=decide ((M:Int)<6)) ?_ (tq (vq vr vc)));cases decide ((M:Int)<6) with
   |true=>refine kt _ (ee (c8 (FW C x r D (nY g) g tx.2 λY x=>sk (sn (done _ _ x))) vr (x.o 0 rfl) (e2 vr (vi (vi vr vr u) vc))))
   |false=>refine U _ (lq (λK k=>dK k (tq (vq (vi (vi vr vr u) vc) vc))) ?_);obtain⟨⟨O,lc,ac,O,O⟩,O,O⟩:=ux g;obtain⟨⟨O,lt,aa,O,O⟩,O,O⟩:=ux tx.1;refine eJ x.dk λO O w=>?_;k_in;refine fA w rfl rfl ⟨dc,N4 C ac (bL lc) λcN x1=>iG (show 5+c.length<=aI by unfold aI;exact mR bW dc) (aE (gQ (u:=.str c) (r:=(Vl.cq t).pv) (x1 _ _ (x.o 1 rfl)) (ig _ _ _) (by unfold dC;rw[oW,jK H J];rfl)) (aE rfl ⟨dc,?_⟩))⟩;refine N4 C aa (bL lt) λbX x2=>iG (show 5+t.length<=aI by unfold aI;exact mR bW dc) (iG (by refine B bR ?_;show 5+t.length+1<=aI;unfold aI;exact oe bW dc) ⟨dc,?_⟩);exact Ff C (p:=gp c) (o:=(Vl.cq t).fF) ((x.ext x1).ext x2) (x8 g).1 (by show([114,101,102,58,32]++t++[10]:Bs).length<=_;refine B bR (B bR ?_);show 5+t.length+1<=_;exact oe bW dc) [] (.inl rfl) λY x=>sk (sk (sn (done Y (some (.str c)) x)))
 ·refine ai j λp e j=>?_
  rw[eB] at e;subst e;exact tn (k b s v j)
end
theorem Ol (v:Option Vl):dG Y .ne (xT v) (xT v)=some false:=by
 cases v with
 |none=>rfl
 |some v=>
  cases v with
  |id k=>show some (!(((([105,100]:Bs)==[105,100])&&((cC k==cC k)&&true))&&true))=_;refine B (ej _:(cC k==cC k)=true) ?_;rfl
  |cq t=>show some (!(((([115,121,109]:Bs)==[115,121,109])&&((t==t)&&true))&&true))=_;refine B (ej t:(t==t)=true) ?_;rfl
theorem adY:(el (dC a) (.str c)).getD .none=xT (a.lookup c):=by unfold dC xT;rw[oW]
theorem Om (h:c∈g8):iL c:=nY (uA h).1
theorem uB (d:M<=8)(h:c∈gC M):c∈g8:=by exact ai (bJ.mp h) λk b a=>az a (bJ.mpr (aQ k (ik.mpr (by have:=ik.mp b;exact lG bW (aw (fZ bW) dc))) rfl))
section
variable (C:Ck a){F:bH}
include C
theorem Oo (x:St d F ((w,.dict ep (dC y))::(z,.list ((gC M).map .str))::D) Y)(r:Rf A L F)(n:M<=8)(t:∀c∈gC M,bt A L c=y.lookup c)(p:v.isNone=!b)(k:∀h i,St d i D h->Q (.bool true) h):
  Ss a a6 28 false (jo 12 nG) (L1 G (L1 (.ref d) (L1 U (L1 I (L1 (.ref w) (L1 (.ref z) (Lo v6 (L1 J (Lo v8 (L1 N (L1 v (L1 (.bool b) (L0 (L0 (L0 []))))))))))))))) (cj Q) (h8 X) Y:=by
 unfold nG;dsimp only[da.o,cS.o,fK.o,List.foldr,jo];k_in;refine⟨rfl,λs u=>⟨dc,FQ C (AH.a9 ..) ⟨bl,?_⟩⟩⟩;rw[AH.fh];have x:=x.new u (bZ d);generalize Y.set s _=Y at x;k_in;refine aE (r:=true) (by rw[p,Bool.not_not];show some (b==b)=_;rw[ej]) ?_;z_go;refine⟨rfl,cQ (x.o 2 rfl) ⟨by unfold gC;rw[aW,aW,kJ];exact bL (gG (by assumption) dc),xv (λO=>none) (σ₀:=Y) (λY e=>e _ _ (x.o 2 rfl)) _ [] Y (ay.refl _) (λv m H K e1 k=>?_) λH e1=>?_⟩⟩
 ·refine ai (bJ.mp m) λc g j=>az j ?_
  have x:=x.ext e1;refine⟨bl,dB rfl (cX (x.o 0 rfl) rfl rfl dc (xW C x r (Om (uB n g)) λbX e2=>?_))⟩;have x:=x.ext e2;exact nH (x.o 1 rfl) ⟨rfl,rfl,nI (x.o 1 rfl) ⟨ig _ _ _,B adY (B (t c g) (aE (Ol _) (k _ e2)))⟩⟩
 rw[gH,FU];exact⟨cI _,λz1 l=>⟨cI _,λz2 f=>aE (Be (fg f (AH.a9 ..)) (AH.a9 ..) λq=>nn (q▸f) (AH.a9 ..)) (k _ F ((((x.ext e1).ext (ay.set l _)).ext (ay.set f _)).drop.drop.drop))⟩⟩
end
theorem Oq {P:Bs->Prop}(h:∀c,P c->b c=a c)(d:∀c t,P c->a c=some (.cq t)->P t):∀(m:Nat) (ns:List Bs) (l:Bs),P l->ch b m ns l=ch a m ns l
 |0,_,_,_=>rfl
 |m+1,ns,l,f=>by
  refine(?_:(match b l with|none=>some (ns,none)|some (.id k)=>some (ns,some k)|some (.cq t)=>ch b m (ns++[t]) t)=(match a l with|none=>some (ns,none)|some (.id k)=>some (ns,some k)|some (.cq t)=>ch a m (ns++[t]) t));refine B (h l f) ?_;cases e:a l with
  |none=>rfl
  |some v=>
   cases v with
   |id k=>rfl
   |cq t=>exact Oq h d m _ t (d l t f e)
theorem adZ {P:Bs->Prop}(d:∀c t,P c->aV c=some (.cq t)->P t)(m:Nat)(ns:List Bs)(l:Bs)(a:P l)(e:ns.getLastD []=l)(h:ch aV m ns l=some (r,o)):P (r.getLastD []):=
 FN (C:=λO ns l r=>P l->ns.getLastD []=l->P (r.getLastD [])) (λO O O a e=>e▸a) (λO O l t O b f a O=>f (d l t a b) List.getLastD_concat) m ns l h a e
theorem ad0 {ns:List Bs}(c:Y a=some (.list (ns.map .str)))(d:Y b=some (.list (ns.map .str)))(n:a≠b):dG Y .ne (.av [.ref a,ov o]) (.av [.ref b,ov o])=some false:=by
 have e1:eS Y 3 (.ref a) (.ref b)=some true:=by refine(?_:(if a=b then none else dq (λe=>dq (λf=>kQ (eS Y 2) e f) none (Y b)) none (Y a))=_);rw[aH n,kc c,kc d,F5]
 have e2:eS Y 3 (ov o) (ov o)=some true:=by
  cases o with
  |none=>rfl
  |some k=>show some (cC k==cC k)=_;rw[ej]
 refine((B e1 (B e2 ?_)):(((sM [eS Y 3 (.ref a) (.ref b),eS Y 3 (ov o) (ov o)]).map (·&&true))).map (!·)=_);rfl
section
variable (C:Ck a){F:bH}
include C
theorem Ot (x:St d F ((s,bZ d)::g) Y)(r:Rf A L F)(u:fi F)(h:uy n (.id k))(p:∀m,pn (bt A L) n (.id k)=some m->m∈Un/\iL m)
  (q:∀m b,pn (bt A L) n (.id k)=some m->St d (di F (gp m) (Vl.id k).fF) ((s,bZ d)::g) b->Q .none b) (t:pn (bt A L) n (.id k)=none->∀b,St d F ((s,bZ d)::g) b->X .jx (.str n) b)
  (i:autoParam (a6 .qG<e) aD) (j:autoParam (a6 .jV<e) aD):∀c,Y c=none->a6 (Cl.gw .ir)<e/\a false (Cl.gw .ir) [.ref c,.str n,.bytes (cC k)] (λr Y=>r.iw (0+1<=aI/\bw Y (.list [.ref c]) λv Y=>a6 .jV<e/\a false .jV [.ref s,v] Q X Y) False) X (Y.set c (.bc .ir [])):=λc l=>
 ⟨i,FR C (v:=.id k) (vs:=[]) (AH.a9 ..) rfl ⟨bl,λz f=>⟨j,by rw[AH.fh] at f⊢;exact FV C (((x.new l (fV n (.id k))).new f (.list [.ref c])).aX 2 rfl) r u h p q t (.inl rfl)⟩⟩⟩
theorem Ou (x:St d F ((s,bZ d)::w) Y)(r:Rf A L F)(u:fi F)(h:uy n (.id k))(e:pn (bt A L) n (.id k)=some m)(j:m∈Un)(q:∀f,St d (di F (gp m) (Vl.id k).fF) ((s,bZ d)::w) f->Q .none f)(l:autoParam (a6 .qG<i) aD)(p:autoParam (a6 .jV<i) aD):∀c,Y c=none->a6 (Cl.gw .ir)<i/\a false (Cl.gw .ir) [.ref c,.str n,.bytes (cC k)] (λr Y=>r.iw (0+1<=aI/\bw Y (.list [.ref c]) λv Y=>a6 .jV<i/\a false .jV [.ref s,v] Q X Y) False) X (Y.set c (.bc .ir [])):=
 Ot C x r u h (λt b=>by have g:=bo (e.symm.trans b);exact az g ⟨j,nY j⟩) (λt f b=>by have g:=bo (e.symm.trans b);exact az g (q f)) (λb=>nn b e) l p
theorem ad1 (x:St d F ((s,bZ d)::p) Y)(r:Rf A L F)(m:fi F)(h:uy n (.id k))(e:pn (bt A L) n (.id k)=none)(l:∀g,St d F ((s,bZ d)::p) g->X .jx (.str n) g)(i:autoParam (a6 .qG<f) aD)(j:autoParam (a6 .jV<f) aD):∀c,Y c=none->a6 (Cl.gw .ir)<f/\a false (Cl.gw .ir) [.ref c,.str n,.bytes (cC k)] (λr Y=>r.iw (0+1<=aI/\bw Y (.list [.ref c]) λv Y=>a6 .jV<f/\a false .jV [.ref s,v] Q X Y) False) X (Y.set c (.bc .ir [])):=
 Ot C x r m h (λO b=>nn e b) (λO O b=>nn e b) (λO=>l) i j
end
theorem Gd (a:∀c∈g8,aV c=none)(c:Bs)(h:c∈g8):rV b aV c=mG b c:=by unfold rV;exact B (a c h) Option.or_none
theorem Ov (ok:∀y∈a,y.1∈g8/\Bo y.2=true)(c t:Bs)(_:c∈g8)(e:mG a c=some (.cq t)):t∈g8:=List.contains_iff_mem.mp (ok _ (A9 e)).2
theorem Ow (h:ch aV 6 [n] n=c):pn aV n (.id k)=c.map λy=>y.1.getLastD []:=by refine az h ?_;rfl
section
variable (C:Ck l){M a g e1:Nat}
include C
theorem ad2 (w:Gb d s rd zn g (kG M a) M aV L ((dk,jO e1 J m t)::(J,gB N)::τ) (kG M a) Y)(ht:0<=t/\t+1<=1000)(v:N.length<=24)(b:M<=8)(hk:a<=2)(hx:∀c∈g8,aV c=none)(kk:∀u F',St d F' τ u->Q (.bool true) u):
  Ss l a6 28 false (jo 7 nG) (L1 (.ref dk) (L1 (.ref d) (L1 (.int M) (L1 (.int a) (L1 (.ref rd) (L1 (.ref zn) (Lo v6 (L1 (.ref s) (Lo v8 (List.replicate 6 none)))))))))) (cj Q) (h8 X) Y:=by
 obtain⟨F,A,x,r,nk,pl,e⟩:=w;obtain⟨nd,ok⟩:=Og b hk;generalize kG M a=U at x nd ok e;unfold nG;dsimp only[da.o,cS.o,fK.o,List.foldr,jo,Mq,Mr];have x:St d F ((dk,jO e1 J m t)::(J,gB N)::(s,bZ d)::(rd,.dict g (dC U))::(zn,.list ((gC M).map .str))::τ) Y:=((x.aX 3 rfl).aX 4 rfl).aX 1 rfl;k_in;refine h9 ⟨dc,qn C ⟨e1,m,t,N,x,ht,v⟩ ⟨Int.lt_add_one_of_le (fH M),lJ (Int.add_le_add_right (i7.mpr b) 1) dc⟩ λY i h0 h1 j=>(Ke (uI h0) λi ad3=>?_)⟩;subst ad3;obtain⟨O,O,O,O,x,O,O⟩:=j;have x:=x.drop.drop;have D:nX i∈gC M:=bJ.mpr (aQ i (ik.mpr ((f5.mp (by rw[Int.natCast_add];exact(by assumption))))) rfl);refine aE (uz (x.o 2 rfl) (i7.mp (Int.le_of_lt_add_one h1)) b rfl) ⟨bl,?_⟩;generalize nX i=n at D;have G:=Om (uB b D);have H:ch (bt A L) 6 [n] n=ch (mG U) 6 [n] n:=B e (Oq (Gd hx) (Ov ok) _ _ _ (uB b D));k_in;refine⟨dc,adI C (x.o 1 rfl) (λns o cN z h y=>⟨bl,?_⟩) λh cN p=>⟨bl,?_⟩⟩
 ·have p:=x.oS y.ext (y.ob _ bP).2 (y.o 0 rfl)
  refine tY (λK k=>?_) λbX f=>?_
  ·z_go
   exact⟨dc,adM C (p.aX 1 rfl) r G (H.trans h) λu z' hz I ez=>aE (ad0 ez (I _ _ (p.o 0 rfl)) λq=>nn (q▸hz) (p.o 0 rfl)) (k _ I)⟩
  have f:=p.ext f;have lx:ns.getLastD []∈g8:=adZ (P:=λc=>c∈g8) (Ov ok) _ _ _ (uB b D) rfl h;refine sk (sc (sc (ee ?_)));z_go;refine fA (f.o 1 rfl) rfl rfl (aS rfl dc (yc C (n:=4) dc λd8 x3=>Ou C ((f.ext x3).aX 1 rfl) r nk ⟨G,.id dc,(by intros;contradiction)⟩ (Ow (H.trans h)) (uA lx).1 λu x=>?_))
  ·refine t8 (sk (lq (λK k=>dK k (tq (vq vr vc))) ?_)) vc
   k_in;refine⟨dc,yc C (n:=4) dc λj8 x4=>⟨bl,?_⟩⟩;have x:=x.ext x4;have ez:=x.o 1 rfl;have x:=x.drop.drop;refine aE (r:=.ref z) rfl (aE (xY ez (Bb (sd _ _) h)) (jh (x.o 0 rfl) (aS (ig _ _ _) ((by unfold dC eY;rw[aW,←aW (f:=(·.1))];exact aw (nd.length_le_of_subset λn m=>(ai (bJ.mp m) λy my e=>e▸(ok y my).1)) (bl))) (λrR=>sk (B (rK Vl.pv _ _ (.id 4):fx (dC U) (.str (ns.getLastD [])) (.av [.str [105,100],.bytes (cC 4)])=dC (bg U (ns.getLastD []) (.id 4))) (Oo C (x.dt _) (r.set (uA lx).1 (v:=.id 4) (.id dc)) b (λc v=>?_) rfl kk))))))
   rw[Oh,kh];unfold fU;split
   ·rfl
   ·exact B e (Gd hx c (uB b v))
 ·refine tY (λK k=>?_) λbX f=>?_
  ·z_go
   exact⟨dc,adN C (x.ext p) r G (H.trans h) λu I=>gR rfl (aE ((by refine((B (ej n:(n==n)=true) ?_):some (!(n==n))=_);rfl)) (k _ I))⟩
  have f:=(x.ext p).ext f;refine sk (sc (sc (ee ?_)));z_go;exact fA (f.o 0 rfl) rfl rfl (aS rfl dc (yc C (n:=4) dc λd8 x3=>ad1 C (f.ext x3) r nk ⟨G,.id dc,(by intros;contradiction)⟩ (Ow (H.trans h)) λu x=>Fs (t8 (sk (gh (λK k=>dK k (tq (vq vr vc))) (sk (Oo C x.drop r b (λc v=>B e (Gd hx c (uB b v))) (b:=false) rfl kk)))) vc)))
end
section
variable (C:Ck a){F:bH}
include C
theorem ad4 (j:lu d F u i y 3 Y)(r:Rf A L F)(p:fi F)(q:F (gp c9++cz)=none)(f:∀c∈g8,bt A L c=none)(k:∀g h,St d h u g->Q (.bool true) g):a false (.bK 11) [.ref i,.ref d] Q X Y:=by refine adQ C j λY M D G I H v b e j=>?_;obtain⟨e1,m,t,z,x,n,l⟩:=j;exact adV C (((x.aX 2 rfl).aX 3 rfl).aX 1 rfl) b e r p q f λY s U w=>ad2 C w n l b e f k
end
inductive uC (d s g f e:Addr)(h:iV)(a:List Bs)(b:Nat)(Y:AH):Prop
 |mk (F:bH) (A:Lm) (j:lu d F ((s,bZ d)::(g,.list (a.map .str))::h) f e b Y) (r:Rf A [] F) (m:fi F) (n:F (gp c9++cz)=none) (i:∀c,a.any (·==c)=(A c).isSome) (l:∀c∈a,c∈eI) (k:a.length<=9)
theorem lu.le {F:bH}(j:lu d F k f c b Y)(h:b'<=b):lu d F k f c b' Y:=(by obtain⟨g,m,t,e,x,a,i⟩:=j;exact⟨g,m,t,e,x,⟨a.1,lJ (Int.add_le_add_left (i7.mpr h) t) a.2⟩,i⟩)
theorem Ox:eI.all (λn=>Un.contains n&&!g8.contains n)=true:=cA
theorem Oy (h:n∈eI):n∈Un:=List.contains_iff_mem.mp (V (List.all_eq_true.mp Ox n h)).1
def tA:Bs:=jL++ue++nA++A4
def tO:Bs:=jL++ue++nO++A4
theorem Oz:tA∈Nt:=List.mem_cons_self
theorem OA:tO∈Nt:=List.mem_cons_of_mem _ List.mem_cons_self
theorem ad5 (a:∀c,b.any (·==c)=(A c).isSome)(n:Bs)(v:Vl)(c:Bs):(b++[n]).any (·==c)=(fU A n (some v) c).isSome:=by
 rw[List.any_append,a];unfold fU;by_cases q:c=n
 ·refine B (aG q) (B q ?_);show(_||((n==n)||false))=true;rw[ej];exact Bool.or_true _
 ·refine B (aH q) ?_;show(_||((n==c)||false))=_;exact B (eA.mpr (jT q)) (Bool.or_false _)
section
variable (C:Ck a){F:bH}
include C
theorem ad6 (j:uC d s th dk cl τ [] 26 Y)(k:∀u b v5,uC d s th dk cl τ b 8 u->Ss a a6 30 false (jo 3 rn) (L1 (.ref l) (L1 (.ref dk) (L1 (.ref d) (L1 (.ref s) (L1 (.ref th) (Lo v5 (Lo v6 (Lo v7 [])))))))) (cj Q) (h8 X) u):
  Ss a a6 30 false (jo 2 rn) (L1 (.ref l) (L1 (.ref dk) (L1 (.ref d) (L1 (.ref s) (L1 (.ref th) (Lo none (Lo v6 (Lo v7 [])))))))) (cj Q) (h8 X) Y:=by
 unfold rn at k⊢;dsimp only[da.o,cS.o,fK.o,List.foldr,jo] at k⊢;refine dX λK N=>?_;z_go;refine⟨dc,N2 C λcN z e1 hz ez=>cQ ez (N _ _ _ ?_)⟩;clear N;have j:uC d s th dk cl ((z,.list (eI.map .str))::τ) [] (2*eI.length+8) cN:=by obtain⟨F,A,⟨p,m,t,g,x,w,H⟩,r,D,L,I,J,M⟩:=j;have x:=(((((x.oS e1 hz ez).aX 4 rfl).aX 4 rfl).aX 4 rfl).aX 4 rfl);exact⟨F,A,⟨p,m,t,g,x,w,H⟩,r,D,L,I,J,M⟩
 refine eu (ι:=Option PV) PV.str (λy=>L1 (.ref l) (L1 (.ref dk) (L1 (.ref d) (L1 (.ref s) (L1 (.ref th) (Lo y (Lo v6 (Lo v7 []))))))))
  (λr u=>∃b U,eI=U++r/\(∀c∈b,c∈U)/\b.length<=U.length/\uC d s th dk cl ((z,.list (eI.map .str))::τ) b (2*r.length+8) u) (λO O=>False)
  (λn r y u K j kn O=>?_) (λO O j=>?_) (λy u j=>?_) (λO O O f=>f.elim) eI none cN (lB [] [] rfl (by intros;contradiction) (dE _) j)
 ·refine lA j λb U e td tl ad7=>?_;obtain⟨F,A,j,r1,D,L,I,J,M⟩:=ad7
  refine⟨bl,?_⟩;have np:n∈eI:=by exact B e (fX _ bP)
  have G:=Oy np;have l9:(b++[n]).length<=9:=by exact az (show eI.length=9 by kernel_rfl) (B e (B bR (B bR (qy tl (Nat.le_add_left 1 _)))))
  have An:A n=none:=by
   cases q:A n with
   |none=>rfl
   |some v=>have h:=I n;rw[q] at h;exact ai (uQ.mp (h:b.any (·==n)=true)) λc mc ec=>absurd (bG.mp ec▸mc) (λq=>(kI.mp (e▸(cf (by kernel_rfl):eI.Nodup))).2.2 n (td n q) n bP rfl)
  have Vn:bt A [] n=none:=by unfold bt;refine B An ?_;rfl
  have done:∀(v:Vl) (p:Nat) (m t:Int) (g:List Int) u,v.ok->0<=t/\t+(2*r.length+8:Nat)<=1000->g.length<=24->St d (di F (gp n) v.fF) ((s,bZ d)::(dk,jO p cl m t)::(cl,gB g)::(th,.list ((b++[n]).map .str))::(z,.list (eI.map .str))::τ) u->K .next (L1 (.ref l) (L1 (.ref dk) (L1 (.ref d) (L1 (.ref s) (L1 (.ref th) (L1 (.str n) (Lo v6 (Lo v7 [])))))))) u:=λv p m t g u ok w H x=>
   kn (some (.str n)) _ (lB (b++[n]) (U++[n]) (by rw[e,e6];rfl) (λc m=>by
    rcases hG.mp m with m|m
    ·exact r8 _ (td c m)
    ·exact fX _ m) (by refine B bR (B bR ?_);exact n4 tl _) ⟨_,fU A n (some v),⟨p,m,t,g,((x.aX 1 rfl).aX 2 rfl).aX 1 rfl,w,H⟩,r1.set G ok,D.set G _,(aH λq=>ya G q).trans L,ad5 I n v,λc m=>by
     rcases hG.mp m with m|m
     ·exact J c m
     ·refine B (eR.mp m) ?_;exact np,l9⟩)
  refine fR λK' kt N=>?_;z_go;refine⟨dc,qn C (j.le (b':=2*r.length+8+1+1) (B e8 (dE (2*r.length+10)))) dc λY i O O j=>?_⟩;refine aE (r:=i==0) rfl ?_;cases i==0 with
  |false=>exact N _ (sk (sn (kn _ _ (lB b (U++[n]) (by rw[e,e6];rfl) (λc m=>r8 _ (td c m)) (by exact B bR (aw tl (gn _ _))) ⟨F,A,j.le (gn _ _),r1,D,L,I,J,M⟩))))
  |true=>
   refine kt _ ?_;obtain⟨p,m,t,g,x,w,H⟩:=j;have ln:n.length<=1000:=by have:=(ux G).1;obtain⟨O,l,O,O,O⟩:=this;exact aw l dc
   refine ee (qe ?_ vr (x.o 3 rfl) (Internal.e1 vr));refine⟨by rw[aW];exact bL (by exact aw (by assumption) dc),?_⟩;have x:=(x.aX 3 rfl).dt (.list ((b++[n]).map .str));rw[cF] at x;refine fR λK2 kt2 kf2=>?_;z_go;refine rP (r:=bT n (some (-4)) none) rfl (bL ln) (aE (r:=bT n (some (-4)) none==[72,69,65,68]) rfl ?_);cases bT n (some (-4)) none==[72,69,65,68] with
   |true=>exact kt2 _ (ee (c8 (FW C ((x.aX 3 rfl)) r1 D (nY G) G Oz λY x=>sk (sk (sn (done (.cq tA) p m t g _ (.cq Oz) ⟨w.1,lJ (Int.add_le_add_left (i7.mpr (qD _)) t) w.2⟩ H (by exact B cF (((x.aX 1 rfl).aX 3 rfl).aX 3 rfl|>.aX 3 rfl)))))) vr (x.o 3 rfl) (e2 vr vc)))
   |false=>refine kf2 _ (ee ?_);z_go;refine fA (x.o 3 rfl) rfl rfl (aS rfl dc (qn C (b:=2*r.length+8) ⟨p,m,t,g,(x.aX 2 rfl).aX 2 rfl,w,H⟩ dc λY i h0 h1 j=>h9 ⟨dc,Ke (uI h0) λi aea=>?_⟩));subst aea;obtain⟨p,m,t,g,x,w,H⟩:=j;exact yc C (n:=1+i) ⟨gn 1 i,lG (yp (f5.mp (h1:(i:Int)<(5:Nat))) 1) dc⟩ λY x1=>Ou C ((x.ext x1).aX 3 rfl) r1 D ⟨nY G,.id (lG (yp (f5.mp (h1:(i:Int)<(5:Nat))) 1) dc),(by intros;contradiction)⟩ (Oi Vn) G λu x=>sk (sk (sn (done (.id (1+i)) p m t g _ (.id (lG (yp (f5.mp (h1:(i:Int)<(5:Nat))) 1) dc)) w H (by exact B cF x))))
 ·refine lA j λO O O O O aeb=>?_;obtain⟨O,O,⟨O,O,O,O,x,O,O⟩,O,O,O,O,O,O⟩:=aeb
  exact x.o 4 rfl
 ·refine lA j λb U O O O aec=>?_;obtain⟨F,A,⟨p,m,t,g,x,w,H⟩,r,D,L,I,J,M⟩:=aec
  exact tn (k u b y ⟨F,A,⟨p,m,t,g,(x.aX 4 rfl).drop,w,H⟩,r,D,L,I,J,M⟩)
end
theorem OB:(!eI.contains tA&&Na.contains tA)=true:=by kernel_rfl
theorem aed (R:d->aP)(P:AH->Prop)(h:∀K:Fl->aP->AH->Prop,(∀y Y,P Y->K .next (R y) Y)->Ss C b a q (.cons s .nil) c K X Y)(k:∀y Y,P Y->Ss C b a q r (R y) Q X Y):Ss C b a q (.cons s r) c Q X Y:=by
 have e:(λ(f:Fl) (c:aP) (Y:AH)=>match f with|.next=>Ss C b a q .nil c (gf C b a q r Q X) X Y|f=>gf C b a q r Q X f c Y)=λ(f:Fl) (c:aP) (Y:AH)=>match f with|.next=>Ss C b a q r c Q X Y|f=>Q f c Y:=funext λf=>by cases f<;>rfl
 exact(br (λK=>S C b a q s c K X Y) e).mp (h (gf C b a q r Q X) k)
section
variable (C:Ck g)
include C
theorem aee (Bp:nZ tb)(j:uC d s th dk cl ((l,.ro ob xs)::tb) there 8 Y)(k:∀G,nF G 868 jI qo->G l=some (.ro ob xs)->Q (.bool true) G):
  Ss g a6 30 false (jo 3 rn) (L1 (.ref l) (L1 (.ref dk) (L1 (.ref d) (L1 (.ref s) (L1 (.ref th) (Lo v5 (L0 (L0 [])))))))) (cj Q) (h8 X) Y:=by
 unfold rn;dsimp only[da.o,cS.o,fK.o,List.foldr,jo];have Ge:∀(A:Lm),(∀c,there.any (·==c)=(A c).isSome)->(∀c∈there,c∈eI)->∀c,c∉eI->bt A [] c=none:=λA b H c u=>by
  cases q:A c with
  |none=>unfold bt;rw[q];rfl
  |some v=>have h:=b c;rw[q] at h;exact ai (uQ.mp (h:there.any (·==c)=true)) λa ma ea=>absurd (bG.mp ea▸H a ma) u
 refine aed (λv6=>L1 (.ref l) (L1 (.ref dk) (L1 (.ref d) (L1 (.ref s) (L1 (.ref th) (Lo v5 (Lo v6 (L0 [])))))))) (uC d s th dk cl ((l,.ro ob xs)::tb) there 6) (λK I=>?_) λv6 Y j=>?_
 ·refine fR λK' kt U=>oR ?_
  obtain⟨F,A,⟨ep,m,t,N,x,J,u⟩,M,p,D,b,H,hl⟩:=j;z_go;refine⟨cI _,λz hz=>aE (um (fg hz (x.o 3 rfl)) (AH.a9 ..) λq=>nn (q▸hz) (x.o 3 rfl)) ?_⟩;have x:=x.ext (ay.set hz (.list []));rw[aW];cases q:there.length==0 with
  |true=>exact U _ (sk (sn (I none _ ⟨F,A,⟨ep,m,t,N,x,⟨J.1,lJ (Int.add_le_add_left dc t) J.2⟩,u⟩,M,p,D,b,H,hl⟩)))
  |false=>
   have A8:there≠[]:=λe=>by rw[e] at q;injection q
   refine⟨dc,qn C (b:=7) ⟨ep,m,t,N,x,J,u⟩ dc λY i O O j=>aE (r:=i==0) rfl ?_⟩;cases i==0 with
   |false=>exact U _ (sk (sn (I none _ ⟨F,A,j.le (b':=6) dc,M,p,D,b,H,hl⟩)))
   |true=>
    refine kt _ (mu (ke (N1 C (b:=6) j (cn _ bP) A8 (aw (by assumption) dc) λY n hn j=>⟨bl,?_⟩) (e2 vr vr)));have un:=Oy (H n hn);obtain⟨ep,m,t,N,x,J,u⟩:=j;refine ee (c8 (FW C (x.aX 2 rfl) M p (nY un) un OA λY x=>?_) vr (x.o 2 rfl) (e2 vr vc));have r2:=M.set un (v:=.cq tO) (.cq OA);have OC:∀c,there.any (·==c)=(fU A n (some (.cq tO)) c).isSome:=λc=>by
     unfold fU;by_cases q:c=n
     ·exact B (aG q) (B q (uQ.mpr (aQ n hn (ej n))))
     ·exact B (aH q) (b c)
    have en:bt (fU A n (some (.cq tO))) [] n=some (.cq tO):=by unfold bt fU;refine B (aG rfl) ?_;rfl
    have et:=Ge _ OC H tA λm=>by have:=(V OB).1;rw[i6.mpr m] at this;injection this
    refine tY (λK k=>oR ?_) λY e1=>sk (sk (sn (I (some (.str n)) _ ⟨_,_,⟨ep,m,t,N,((x.ext e1).aX 2 rfl).aX 2 rfl,J,u⟩,r2,p.set un _,(aH λq=>ya un q).trans D,OC,H,hl⟩)));z_go;exact cX (x.o 0 rfl) rfl rfl dc (xW C x r2 (nY un) λcN e1=>B en ⟨bl,aE (Ol (some (.cq tO))) (B aas (cX ((x.ext e1).o 0 rfl) rfl rfl dc (xW (n:=tA) C (x.ext e1) r2 (xV (i6.mp (V OB).2)) λbX e2=>B et (k _ (e1.trans e2)))))⟩)
 refine Ga (λY=>∃aV,(∀c,there.any (·==c)=(aV c).isSome)/\(∀c,c∉eI->aV c=none)/\Bn d s th dk cl l ob xs aV there 5 Y) (λK I=>?_) λY j=>?_
 ·refine fR λK' kt U=>?_
  obtain⟨F,A,j,M,p,D,b,H,hl⟩:=j;have hA:∀c,there.any (·==c)=(bt A [] c).isSome:=λc=>by unfold bt;rw[b];cases A c<;>rfl
  z_go;refine⟨dc,qn C (b:=5) j dc λY i O O j=>aE (r:=i==0) rfl ?_⟩;cases i==0 with
  |false=>exact U _ (sk (sn (I _ (gD (bt A []) hA (Ge A b H) ⟨tb,F,A,[],Bp,j,M,p,D,rfl⟩))))
  |true=>obtain⟨ep,m,t,N,x,J,u⟩:=j;refine kt _ (ee (c8 (ac5 C ⟨F,x.aX 2 rfl,M,p,D,rfl⟩ λG A' L v y=>?_) vr (x.o 2 rfl) (e1 vc)));obtain⟨F,x,r,p,D,e⟩:=y;exact sk (sn (I _ (gD (bt A []) hA (Ge A b H) ⟨tb,F,A',L,Bp,⟨ep,m,t,N,(x.aX 2 rfl).aX 2 rfl,J,u⟩,r,p,D,e⟩)))
 refine gk j λaV b hx w=>dX λK U=>?_;z_go;refine⟨(cZ ⟨dc,dc⟩ ⟨dc,dc⟩ dc dc),U _ _ _ ?_⟩;clear U;refine B (F9 (M:=2):jz 0 2 1=_) ?_;refine eu (ι:=Option PV) (λk:Nat=>PV.int (0+1*k)) (λv7=>L1 (.ref l) (L1 (.ref dk) (L1 (.ref d) (L1 (.ref s) (L1 (.ref th) (Lo v5 (Lo v6 (Lo v7 []))))))))
  (λr G=>Bn d s th dk cl l ob xs aV there (3+r.length) G) (λO O=>False) (λi r y G K j I O=>?_) (λO O O=>trivial) (λy G j=>?_) (λO O O f=>f.elim) (List.range 2) none Y w
 ·exact⟨bl,fR λK' kt U=>rB (rA (ke (adA C j b λY w=>U _ (sk (sn (I _ _ w)))) (ec vr (e2 vr vr))))⟩
 ·obtain⟨tb,F,A,L,Bp,j,r,p,D,e⟩:=j
  refine tn (qf (ke (ad4 C j r p D (λc u=>?_) λG F' x=>?_) (e2 vr vr)))
  ·refine B e ?_
   exact hx c λm=>by have:=(V (bI.mp Ox c m)).2;rw[i6.mpr u] at this;injection this
  ·exact k G (Bp.aa (τ:=[_,_,_]) x) (x.o 2 rfl)
end
theorem aef:Rf (λO=>none) [] (λO=>none):=⟨λO O O=>rfl,(by intros;contradiction),.no rfl,(by intros;contradiction)⟩
section
variable (C:Ck c){a:Obj}{ns:List Int}
include C
theorem aeg (r:t l=some (.ro a (ns.map .int)))(v:t 868=some (.raw (tabObj #[])))(G:l≠868)(H:ns.length<=63)(k:∀i,nF i 868 jI qo->i l=some (.ro a (ns.map .int))->Q (.bool true) i):c false (.bK 12) [.ref l] Q X t:=by
 refine aZ aab C ?_;have n:=λg e s d h Y=>ad6 (v6:=none) (v7:=none) (th:=h) (dk:=g) (cl:=e) (s:=s) (d:=d) C (Q:=Q) (X:=X) (Y:=Y) (l:=l) (τ:=[(l,.ro a (ns.map .int)),(868,.raw (tabObj #[]))]);unfold rn at n⊢;dsimp only[da.o,cS.o,fK.o,List.foldr,jo] at n;w_up;k_in;refine⟨dc,adk C r H λg e w m u Y x z=>⟨rfl,λd A=>⟨dc,adj C (x.new A (.bc .i9 [])) λf b e1 e2 Y x=>jt (bl) rfl rfl (bl) (bl) ?_⟩⟩⟩;have x:=x.st (β:=[(l,.ro a (ns.map .int)),(868,.raw (tabObj #[]))]) (by simp[G]) (λy m=>by
  rcases d4.mp m with rfl|m
  ·exact r
  ·exact B (eR.mp m) v)
 k_in;refine⟨rfl,λs D=>⟨dc,FQ C (AH.a9 ..) ⟨cI _,?_⟩⟩⟩;rw[AH.fh];have x:=x.new D (bZ d);exact x.bw λh Y x=>jt (bl) rfl rfl (bl) (bl) (n g e s d h Y ⟨λO=>none,λO=>none,⟨w,m,0,u,((x.aX 1 rfl).aX 3 rfl).aX 3 rfl,dc,z⟩,aef,λO O=>rfl,rfl,λO=>rfl,(by intros;contradiction),cI _⟩ λi p q j=>(λg e s d h q Y p=>aee (v5:=q) (there:=p) (th:=h) (dk:=g) (cl:=e) (s:=s) (d:=d) C (Q:=Q) (X:=X) (Y:=Y) (l:=l) (ob:=a) (xs:=ns.map .int) .a) g e s d h q i p j k)
end
theorem holds3:PySem.Challenge.rw_nt0310_03.Holds:=aam (λw h l c ns C L b a=>aeg ⟨C,L,rfl⟩ (if_neg a|>.trans (if_pos rfl)) (if_pos rfl) a b λd T R=>aS rfl T R)
end Mine.Internal
end
theorem PySem.Challenge.cw_nt0310_03_holds : PySem.Challenge.rw_nt0310_03.Holds :=
  Mine.Internal.holds3
