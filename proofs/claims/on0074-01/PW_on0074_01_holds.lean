import PyProof.Rows.All
import Wide.All
import OpenK.AllK
import Wide.FinOn
import PySem.Challenge.RW_on0074_01
set_option Elab.async false
set_option compiler.extract_closed false
set_option compiler.reuse false
set_option compiler.small 0
set_option bootstrap.genMatcherCode false
set_option genSizeOf false
set_option genInjectivity false
set_option genCtorIdx false
set_option linter.unusedVariables false
set_option maxRecDepth 100000
set_option maxHeartbeats 0
namespace Tactic
abbrev Sx:=Lean.Syntax
def zK(p:Lean.Name)(k:String)(l:List Sx):Sx:=.node .none (.str p k) l.toArray
def zT(k : String)(l : List Sx) : Sx:=zK `Lean.Parser.Tactic k l
def zM(k : String)(l : List Sx) : Sx:=zK `Lean.Parser.Term k l
def zA(s:String):Sx:=.atom .none s
def zN(l : List Sx) : Sx:=.node .none `null l.toArray
def z1(k:String)(t:Sx):Sx:=zT k [zA k,t]
def zL(k:String)(t:Sx):Sx:=z1 k (zN [t])
def zI(s:String):Sx:=Lean.mkIdent s.toName
def ap(f:String)(l:List Sx):Sx:=if l.isEmpty then zI f else zM "app" [zI f,zN l]
def Ik(l:List Sx):Sx:=l.foldr (λx r=>ap "List.cons" [x,r]) (zI "List.nil")
def zQ(l:List Sx):Sx:=zT "tacticSeq" [zT "tacticSeq1Indented" [zN (l.intersperse (zA ";"))]]
def tS(l:List Sx):Sx:=zT "paren" [zA "(",zQ l,zA ")"]
def tF(l:List Sx):Sx:=z1 "first" (zN (l.map λt=>.node .none `group #[zA "|",zQ [t]]))
def tY(t:Sx):Sx:=zT "tacticTry_" [zA "try",zQ [t]]
def tE(t:Sx):Sx:=z1 "exact" t
def tR(t:Sx):Sx:=z1 "refine" t
def tU(t:Sx):Sx:=zL "subst" t
def tI(t:Sx):Sx:=zL "intro" t
def tC(t:Sx):Sx:=zL "clear" t
def tX:Sx:=z1 "fail" (zN [])
def zH:Sx:=zM "hole" [zA "_"]
def zq:Sx:=zM "syntheticHole" [zA "?",zA "_"]
def zB(l:List Sx)(b:Sx):Sx:=zM "fun" [zA "fun",zM "basicFun" [zN l,zN [],zA "=>",b]]
def zU(t:Sx):Sx:=zM "paren" [zM "hygienicLParen" [zA "(",.node .none `hygieneInfo #[zI ""]],t,zA ")"]
def zD(t:Sx)(e:Sx):Sx:=zM "letDecl" [zM "letIdDecl" [zM "letId" [t],zN [],zN [],zA ":=",e]]
def QD(h e:Sx):Sx:=z1 "replace" (zD h e)
def tO(p t:Sx):Sx:=zT "obtain" [zA "obtain",zN [p],zN [],zN [zA ":=",zN [t]]]
def tG(t:Sx):Sx:=zN [zT "elimTarget" [zN [],zU t]]
def tA(t p:Sx):Sx:=zT "rcases" [zA "rcases",tG t,zN [zA "with",p]]
def tW(r:List Sx)(l:List Sx):Sx:=zT "rewriteSeq" [zA "rewrite",zT "optConfig" [zN []],zT "rwRuleSeq" [zA "[",zN (r.intersperse (zA ",")),zA "]"],zN l]
def tZ:Sx:=tY (zT "withReducible" [zA "with_reducible",zQ [zT "tacticRfl" [zA "rfl"]]])
def mP(l:List Sx):Sx:=zT "rcasesPatMed" [zN l]
def yb(s : Sx) : Bool:=s.isIdent && s.getId == `rfl
def kO(s : Sx)(k : String) : Bool:=s.isOfKind (.str `Lean.Parser.Tactic.rcasesPat k)
def Il(h:Sx)(k:String):Sx:=zI ((if h.isIdent then h.getId.toString else "z")++"_"++k)
def QF(l : List Sx) : Sx:=mP [zK `Lean.Parser.Tactic.rcasesPat "tuple" [zA "⟨",zN (l.intersperse (zA ",")),zA "⟩"]]
def QG(h z:Sx):Nat->Bool->List Sx->List Sx × List Sx × List Sx
 | _,_,[]=>([],[],[])
 | k,more,e::es =>
  if more || es.isEmpty then
   let m:=e[0][0]
   let p:=m[0]
   let o:=m.getNumArgs == 1
   let n:=o && kO p "one"
   let t:=Il h (toString k)
   let (i,b,mo):=if n && !yb p[0] then (if p[0].getId == h.getId then z else p[0],[],more)
    else if o && kO p "ignore" then (zH,[],more)
    else (t,[if n then tU t else tO e[0] t],more && (e.find? yb).isNone)
   let (x,y,w):=QG h z (k + 1) mo es
   (i::x,b++y,w)
  else ([],[],e::es)
def alt:Sx->Sx->List Sx->Sx
 | _,_,[]=>tX
 | h,c,m::ms =>
  let z:=zI "z_o"
  if (m.find? λs=>s.isOfKind `Lean.Parser.Tactic.rcasesPatMed && s[0].getNumArgs != 1).isSome then tX else
  let f:=tS (c::(if kO m "one" && !yb m[0] then [tI m[0]] else tI z::(if yb m[0] then [tU z] else if kO m "ignore" then [] else [tO (mP [m]) z])))
  if ms.isEmpty then f else
  tS [tR (ap "Or.elim" [h,zq,zq]),f,zT "rotateLeft" [zA "rotate_left",zN []],if ms.length == 1 then alt h c ms else tS [c,tI z,alt z (tC z) ms],zT "rotateRight" [zA "rotate_right",zN []]]
def QH(h p:Sx):Sx :=
 let q:=p[0]
 let es:=q[0][1].getSepArgs.toList
 let c:=if h.isIdent then tY (tC h) else tS []
 if q.getNumArgs != 1 then alt h c q.getSepArgs.toList
 else if !kO q[0] "tuple" || es.length < 2 then tX
 else
  let z : Sx:=Lean.mkIdent (Lean.addMacroScope `Tactic `z 1)
  let (ids,post,rest):=QG h z 0 true es
  let r:=Il h "r"
  let (ids,post):=if rest.isEmpty then (ids,post) else (ids++[r],post++[tO (QF rest) r])
  let n:=ids.length
  let a:=tF ((List.range n).map λd=>tR (ap ("Tactic.x_"++toString (n - 1 - d)++toString (d + 1)) [h,zB ids zq]))
  tS (a::c::(match ids.dropWhile λx=>x.getId != z.getId with
  | []=>post
  | _::l=>zT "renameI" [zA "rename_i",zN ((h::l.filter λx=>!x.isIdent).map λx=>.node .none `Lean.binderIdent #[x])]::post))
def QI(h p:Sx)(f:String):Sx :=
 let q:=p[0]
 let es:=q[0][1].getSepArgs.toList
 match es with
 | e::er =>
  let m:=e[0][0][0]
  if q.getNumArgs != 1 || !kO q[0] "tuple" || er.length < 2 || e[1].getNumArgs != 0 || e[0][0].getNumArgs != 1 then tX else
  let b:=Il h "p"
  let r:=Il h "q"
  let t:=if kO m "one" && !yb m[0] then m[0] else b
  tS ([tR (ap f [h,zB [t,r] zq])]++(if h.isIdent && t.getId != h.getId then [tY (tC h)] else [])++(if kO m "one" then (if yb m[0] then [tU b] else []) else if kO m "ignore" then [] else [tO e[0] b])++[tO (QF er) r])
 | []=>tX
def QJ:Nat->List Sx->List Sx
 | _,[]=>[]
 | k,p::ps =>
  let q:=p[0]
  let o:=kO q "one"
  let t:=if o && !yb q[0] then q[0] else if kO q "ignore" then zH else zI ("z_i"++toString k)
  tI t::(if o && yb q[0] then [tU t] else if kO q "clear" then [tC t] else if o || kO q "ignore" then [] else [tO (mP [q]) t])++QJ (k + 1) ps
def QK(h:Sx):Sx :=
 let e:=ap "Eq.refl" [zI "false"]
 let s:=tU h
 let z:=zI "z_e"
 let y:=zI "z_f"
 let i:=λl=>zT "injection" [zA "injection",h,zN l]
 let w:=λl=>i [zA "with",zN l]
 let j:=tF [tS [w [z,y],tU z,tU y],tS [w [z],tU z]]
 let r:=λf=>QD h (ap f [h])
 tF [tS [i [],zT "done" [zA "done"]],tE (ap "Tactic.sO" [e,h]),tE (ap "Tactic.sV" [e,h]),s,tS [r "Tactic.sL",s],tS [r "Tactic.sI",tF [s,j]],j,zT "cases" [zA "cases",tG h,zN [],zN []]]
def cls:Sx :=
 let e:=ap "Eq.refl" [zI "false"]
 let u:=zH
 let f:=λt=>zB [u] t
 let d:=ap "List.Mem.head" [u]
 let l:=λt=>ap "List.Mem.tail" [u,t]
 let n:=ap "Tactic.nT" [e]
 let m:=ap "Tactic.nU" [e]
 let r:=λt=>ap "Or.inr" [t]
 let x:=zI "rfl"
 let i:=ap "Or.inl" [x]
 tF (([zI "List.not_mem_nil",n,f n,ap "Tactic.nV" [e],m,f m,d,l d,l (l d),l (l (l d)),ap "List.mem_append_right" [u,d],ap "List.append_cons" [u,u,u],zI "Tactic.gE",i,r i,r x,r (r i),f (f (ap "Tactic.E0" [u])),ap "Nat.zero_lt_succ" [u],ap "Nat.succ_ne_zero" [u],ap "List.cons_ne_nil" [u,u]].map tE)++[zT "decide" [zA "decide",zT "optConfig" [zN []]],zT "simp" [zA "simp",zT "optConfig" [zN []],zN [],zN [],zN [zA "[",zN [],zA "]"],zN []]])
def zn(k:Nat):Sx:=Lean.Syntax.mkNatLit k
def pX:Nat->Bool->Option Sx->List Char->Sx × List Char
 | n + 1,true,_,c::r =>
  if c == '(' then (pX n false none r).map id (·.tail)
  else if c == '\'' then (pX n true none r).map (λx=>ap "Tactic.Lx.t" [x]) id
  else if c.isDigit then
   let k:=zn ((c::r).takeWhile (·.isDigit) |>.foldl (λa d=>a * 10 + (d.toNat - 48)) 0)
   let r:=r.dropWhile (·.isDigit)
   if r.head? == some '*' then (pX n true none r.tail).map (λx=>ap "Tactic.Lx.m" [k,x]) id
   else (ap "Tactic.Lx.c" [k],r)
  else (ap "Tactic.Lx.v" [zn (c.toNat - if c.isLower then 97 else 65)],r)
 | n + 1,false,none,cs =>
  let (x,r):=pX n true none cs
  pX n false (some x) r
 | n + 1,false,some x,c::r =>
  if c == '+' || c == '-' then
   let (y,r):=pX n true none r
   pX n false (some (ap (if c == '+' then "Tactic.Lx.a" else "Tactic.Lx.s") [x,y])) r
  else (x,c::r)
 | _,_,x,r=>(x.getD zH,r)
def pC(s:String):Option Bool × List Sx × Sx :=
 if s == "_" then (none,[],zI "Tactic.Lc.ff") else
 let cs:=s.toList
 let neg:=cs.head? == some '!'
 let (x,r):=pX 99 false none (if neg then cs.tail else cs)
 let (y,_):=pX 99 false none r.tail
 let k:=([':','<','=','.','>','~'].findIdx? λc=>r.head? == some c).getD 0
 let nat:=decide (3 <= k)
 let k:=k % 3 + if neg then 3 else 0
 (if k == 2 then some nat else none,[x,y],ap (if nat then "Tactic.Lc.j" else "Tactic.Lc.i") [zn k,x,y])
def pK(n:Nat)(s:Option String):Sx:=match s with
 | none=>Ik (List.replicate n (zn 1))
 | some s=>Ik ((s.splitOn ",").map λw=>if w.startsWith "-" then ap "Int.negSucc" [zn (((w.splitOn "-").getLast!).toNat! - 1)] else zn w.toNat!)
def pS(s:String)(ts:List Sx):Sx :=
 let ps:=s.splitOn ";"
 let p:=ps.head!
 let cs:=(p.splitOn ",").map pC
 let num:=λ(z : Nat) (f : Char->Bool)=>Ik (List.replicate (((p.toList.filter f).map λc=>c.toNat - z).foldl max 0) zH)
 let l:=num 96 (·.isLower)
 let w:=num 64 (·.isUpper)
 let hs:=Ik (cs.tail.map (·.2.2))
 let k1:=pK cs.length ps[1]?
 let r:=ap "Eq.refl" [zI "true"]
 match cs.head! with
 | (some nat,xy,_)=>ap (if nat then "Tactic.ln2" else "Tactic.le2") ([l,w]++xy++[hs,k1,pK cs.length ps[2]?,r,r]++ts)
 | (none,_,g)=>ap "Tactic.li" ([l,w,g,hs,k1,r]++ts)
def qs(s : Sx) : Bool:=(s.find? (·.isOfKind `Lean.Parser.Term.syntheticHole)).isSome
def Yz(rs:List Sx):Sx :=
 tS (rs.map (λr =>
  let e:=r[1]
  let w:=tW [r] []
  if qs e then w else
  let g:=λe=>tR (ap (if r[0].getNumArgs == 0 then "Tactic.rwE" else "Tactic.rwB") [e,zq])
  let d:=e[0].getId
  let i:=if d == `if_pos then ["Tactic.wpT","Tactic.aqq"] else if d == `if_neg then ["Tactic.YF","Tactic.aqr"] else []
  tF (i.map (λn=>tR (ap n [e[1][0],zq]))++[g e,g (ap "propext" [e]),w]))++[tZ])
def QL(h:Sx)(l:Sx)(rs:List Sx):Sx :=
 let e:=rs.foldl (λt r=>zM "subst" [if r[0].getNumArgs == 0 then r[1] else ap "Eq.symm" [r[1]],zA "▸",zN [t]]) h
 tS [tF [QD h (zU e),tW rs [l]],tZ]
def YB(es:List Sx):Sx :=
 let h:=es.getLast!
 let z:=ap "Eq.refl" [zI "false"]
 let f:=λn l=>tE (ap n l)
 let c:=zI "z_c"
 let g:=λn=>[tS [zT "tacticHave__" [zA "have",zM "letConfig" [zN []],zD c (ap n es)],tY (tC h),tU c]]
 tF ((if es.length == 2 then [f "Tactic.YC" (z::es),f "Tactic.Ks" es,f "Tactic.Ks" es.reverse]++g "Tactic.YD" else if es.length == 3 then [f "Tactic.sT2" (z::es),f "Tactic.sS2" es,f "Tactic.sS3" es]++g "Tactic.sX2" else [])
  ++ [tS [QL h (zT "location" [zA "at",zT "locationHyp" [zN [h],zN []]]) (es.dropLast.map λt=>zT "rwRule" [zN [],t]),QK h]])
def zzA(n:String)(l:List Sx):Sx:=zU (zM "app" [zM "dotIdent" [zA ".",zI n],zN l])
def zzV(n:Sx):Sx:=zzA "v" [n]
def zO(b:Bool)(s:Sx):Lean.MacroM Sx:=if b then pure s else Lean.Macro.throwUnsupported
def ss(s:Sx):List Sx:=s.getSepArgs.toList
end Tactic
local macro_rules (kind:=Lean.Parser.Command.declaration)
 | s =>
  let d:=s[1]
  match d[0] with
  | .atom (.original ..) v =>
   let d:=if v == "def" && d[3][1].isOfKind `Lean.Parser.Term.byTactic then Tactic.zK `Lean.Parser.Command "theorem" [d[0],d[1],Tactic.zK `Lean.Parser.Command "declSig" [d[2][0],d[2][1][0]],d[3]] else d
   let s:=s.setArg 1 (d.setArg 0 (Tactic.zA v))
   pure (if !d.isOfKind `Lean.Parser.Command.theorem && (v == "def" || v == "abbrev") then s.setArg 0 (s[0].setArg 4 (Tactic.zN [.node .none `Lean.Parser.Command.noncomputable #[Tactic.zA "noncomputable"]])) else s)
  | _=>Lean.Macro.throwUnsupported
namespace Tactic
set_option genCtorIdx true in
inductive Bi where
 |len | lst | dict | sorted | abs | min | max
set_option genCtorIdx true in
inductive Lm where
 |append | extend | pop
set_option genCtorIdx true in
inductive Cm where
 |lt | le | gt | ge | eq | ne | is | cM | wq
set_option genCtorIdx true in
inductive Ar where
 |add | sub | mul | fdiv | mod | cat | rep
inductive E where
 |stop
 |cN
 |cB (b:Bool)
 |cI (i:Int)
 |cS (k:Nat)
 |v (x:Nat)
 |glob (a:Nat)
 |attr (e:E) (k:Nat)
 |ar (o:Ar) (a b:E)
 |not (e:E)
 |jG (c a b:E)
 |and (a b:E)
 |or (a b:E)
 |cmp (o:Cm) (a b:E)
 |lj (o p:Cm) (a b c:E)
 |list (l:List E)
 |tup (l:List E)
 |gN
 |idx (e i:E)
 |lu (e:E) (lo hi:Option E)
 |qJ (e:E)
 |call (f:Nat) (l:List E)
 |new (c:Nat) (l:List E)
 |bN (e:E) (k:Nat) (l:List E)
 |bi (b:Bi) (l:List E)
 |lm (m:Lm) (e:E) (l:List E)
 |items (e:E)
 |isTrue (e:E)
 |Bt (e:E)
 |gO (f:Nat) (l:List E) (aw:List Nat) (b:E) (aG:List Nat)
 |kh (x:Nat) (l:List E)
 |comp (e:E) (t:List Nat) (src:E) (ifs:List E)
 |oG (l:List E)
set_option genInjectivity true in
inductive V where
 |none
 |bool (b:Bool)
 |int (i:Int)
 |str (k:Nat)
 |ref (a:Nat)
 |dz (aw:List Nat) (b:E) (aG:List (Nat×V))
set_option genInjectivity true in
inductive O where
 |inst (c:Nat) (fs:List (Nat×V))
 |lst (xs:List V)
 |fL (xs:List V)
 |tup (xs:List V)
 |cu (es:List (Int×V)) (ep:Nat)
def V.ctorIdx(v:V):Nat:=(by cases v with | none=>exact 0 | bool=>exact 1 | int=>exact 2 | str=>exact 3 | ref=>exact 4 | dz=>exact 5)
def O.ctorIdx(v:O):Nat:=(by cases v with | inst=>exact 0 | lst=>exact 1 | fL=>exact 2 | tup=>exact 3 | cu=>exact 4)
abbrev So:=Nat->Option O
abbrev Env:=List (Nat×V)
def put(s:So)(a:Nat)(o:O):So:=λb=>match Nat.beq b a with
 |true=>some o
 |false=>s b
def lk:List (Nat×V)->Nat->Option V
 | [],_=>Option.none
 |(k,v)::r,x=>match Nat.beq k x with
  |true=>some v
  |false=>lk r x
def up:List (Nat×V)->Nat->V->List (Nat×V)
 | [],x,v=>[(x,v)]
 |(k,u)::r,x,v=>match Nat.beq k x with
  |true=>(k,v)::r
  |false=>(k,u)::up r x v
inductive Tg where
 |v (x:Nat)
 |attr (e:E) (k:Nat)
 |idx (e i:E)
 |lu (e lo hi:E)
inductive Sm where
 |stop
 |asg (t:Tg) (e:E)
 |ly (ts:List Tg) (e:E)
 |ex (e:E)
 |iff (c:E) (a b:List Sm)
 |jH (c:E) (b:List Sm)
 |cD (t:List Nat) (src:E) (b:List Sm)
 |ret (e:E)
 |raise (k:Nat) (e:E)
 |qK (b:List Sm) (x:Nat)
def Sm.ctorIdx(v:Sm):Nat:=(by cases v with | stop=>exact 0 | asg=>exact 1 | ly=>exact 2 | ex=>exact 3 | iff=>exact 4 | jH=>exact 5 | cD=>exact 6 | ret=>exact 7 | raise=>exact 8 | qK=>exact 9)
structure Fd where
 aw:List Nat
 ki:List V
 body:List Sm
end Tactic
namespace Tactic
variable{A C:Prop}{b:Bool}{y:Nat}{M:Model}{s:Shared}{l:List Int}{w:List Nat}
@[elab_as_elim] theorem rwE{α}{a b:α}{p:α->Prop}(h:a = b)(k:p b):p a:=by subst h; exact k
@[elab_as_elim] theorem rwB{α}{a b:α}{p:α->Prop}(h:b = a)(k:p b):p a:=by subst h; exact k
theorem x_12{α:Sort _}{A B:α->Prop}{G:Prop}(h:∃ a,A a/\B a)(k:∀ a,A a->B a->G):G:=h.elim λa h=>k a h.1 h.2
theorem x_02{B:Prop}{G:Prop}(h:A/\B)(k:A->B->G):G:=k h.1 h.2
theorem x_11{α:Sort _}{A:α->Prop}{G:Prop}(h:∃ a,A a)(k:∀ a,A a->G):G:=h.elim λa h=>k a h
theorem x_03{B:Prop}{G:Prop}(h:A/\B/\C)(k:A->B->C->G):G:=k h.1 h.2.1 h.2.2
theorem x_13{α:Sort _}{A B C:α->Prop}{G:Prop}(h:∃ a,A a/\B a/\C a)(k:∀ a,A a->B a->C a->G):G:=h.elim λa h=>k a h.1 h.2.1 h.2.2
theorem x_22{α:Sort _}{β:Sort _}{A B:α->β->Prop}{G:Prop}(h:∃ a b,A a b/\B a b)(k:∀ a b,A a b->B a b->G):G:=h.elim λa h=>h.elim λb h=>k a b h.1 h.2
theorem x_21{α:Sort _}{β:Sort _}{A:α->β->Prop}{G:Prop}(h:∃ a b,A a b)(k:∀ a b,A a b->G):G:=h.elim λa h=>h.elim λb h=>k a b h
theorem x_33{α:Sort _}{β:Sort _}{γ:Sort _}{A B C:α->β->γ->Prop}{G:Prop}(h:∃ a b c,A a b c/\B a b c/\C a b c)(k:∀ a b c,A a b c->B a b c->C a b c->G):G:=h.elim λa h=>h.elim λb h=>h.elim λc h=>k a b c h.1 h.2.1 h.2.2
theorem x_42{α:Sort _}{β:Sort _}{γ:Sort _}{δ:Sort _}{A B:α->β->γ->δ->Prop}{G:Prop}(h:∃ a b c d,A a b c d/\B a b c d)(k:∀ a b c d,A a b c d->B a b c d->G):G:=h.elim λa h=>h.elim λb h=>h.elim λc h=>h.elim λd h=>k a b c d h.1 h.2
theorem x_04{B D:Prop}{G:Prop}(h:A/\B/\C/\D)(k:A->B->C->D->G):G:=k h.1 h.2.1 h.2.2.1 h.2.2.2
theorem x_32{α:Sort _}{β:Sort _}{γ:Sort _}{A B:α->β->γ->Prop}{G:Prop}(h:∃ a b c,A a b c/\B a b c)(k:∀ a b c,A a b c->B a b c->G):G:=h.elim λa h=>h.elim λb h=>h.elim λc h=>k a b c h.1 h.2
theorem x_43{α:Sort _}{β:Sort _}{γ:Sort _}{δ:Sort _}{A B C:α->β->γ->δ->Prop}{G:Prop}(h:∃ a b c d,A a b c d/\B a b c d/\C a b c d)(k:∀ a b c d,A a b c d->B a b c d->C a b c d->G):G:=h.elim λa h=>h.elim λb h=>h.elim λc h=>h.elim λd h=>k a b c d h.1 h.2.1 h.2.2
theorem x_41{α:Sort _}{β:Sort _}{γ:Sort _}{δ:Sort _}{A:α->β->γ->δ->Prop}{G:Prop}(h:∃ a b c d,A a b c d)(k:∀ a b c d,A a b c d->G):G:=h.elim λa h=>h.elim λb h=>h.elim λc h=>h.elim λd h=>k a b c d h
theorem x_51{α:Sort _}{β:Sort _}{γ:Sort _}{δ:Sort _}{ε:Sort _}{A:α->β->γ->δ->ε->Prop}{G:Prop}(h:∃ a b c d e,A a b c d e)(k:∀ a b c d e,A a b c d e->G):G:=h.elim λa h=>h.elim λb h=>h.elim λc h=>h.elim λd h=>h.elim λe h=>k a b c d e h
theorem x_44{α:Sort _}{β:Sort _}{γ:Sort _}{δ:Sort _}{A B C D:α->β->γ->δ->Prop}{G:Prop}(h:∃ a b c d,A a b c d/\B a b c d/\C a b c d/\D a b c d)(k:∀ a b c d,A a b c d->B a b c d->C a b c d->D a b c d->G):G:=h.elim λa h=>h.elim λb h=>h.elim λc h=>h.elim λd h=>k a b c d h.1 h.2.1 h.2.2.1 h.2.2.2
theorem x_62{α:Sort _}{β:Sort _}{γ:Sort _}{δ:Sort _}{ε:Sort _}{ζ:Sort _}{A B:α->β->γ->δ->ε->ζ->Prop}{G:Prop}(h:∃ a b c d e f,A a b c d e f/\B a b c d e f)(k:∀ a b c d e f,A a b c d e f->B a b c d e f->G):G:=h.elim λa h=>h.elim λb h=>h.elim λc h=>h.elim λd h=>h.elim λe h=>h.elim λf h=>k a b c d e f h.1 h.2
theorem x_34{α:Sort _}{β:Sort _}{γ:Sort _}{A B C D:α->β->γ->Prop}{G:Prop}(h:∃ a b c,A a b c/\B a b c/\C a b c/\D a b c)(k:∀ a b c,A a b c->B a b c->C a b c->D a b c->G):G:=h.elim λa h=>h.elim λb h=>h.elim λc h=>k a b c h.1 h.2.1 h.2.2.1 h.2.2.2
theorem x_25{α:Sort _}{β:Sort _}{A B C D E:α->β->Prop}{G:Prop}(h:∃ a b,A a b/\B a b/\C a b/\D a b/\E a b)(k:∀ a b,A a b->B a b->C a b->D a b->E a b->G):G:=h.elim λa h=>h.elim λb h=>k a b h.1 h.2.1 h.2.2.1 h.2.2.2.1 h.2.2.2.2
theorem x_14{α:Sort _}{A B C D:α->Prop}{G:Prop}(h:∃ a,A a/\B a/\C a/\D a)(k:∀ a,A a->B a->C a->D a->G):G:=h.elim λa h=>k a h.1 h.2.1 h.2.2.1 h.2.2.2
theorem x_08{B D E F H I:Prop}{G:Prop}(h:A/\B/\C/\D/\E/\F/\H/\I)(k:A->B->C->D->E->F->H->I->G):G:=k h.1 h.2.1 h.2.2.1 h.2.2.2.1 h.2.2.2.2.1 h.2.2.2.2.2.1 h.2.2.2.2.2.2.1 h.2.2.2.2.2.2.2
theorem x_06{B D E F:Prop}{G:Prop}(h:A/\B/\C/\D/\E/\F)(k:A->B->C->D->E->F->G):G:=k h.1 h.2.1 h.2.2.1 h.2.2.2.1 h.2.2.2.2.1 h.2.2.2.2.2
theorem x_24{α:Sort _}{β:Sort _}{A B C D:α->β->Prop}{G:Prop}(h:∃ a b,A a b/\B a b/\C a b/\D a b)(k:∀ a b,A a b->B a b->C a b->D a b->G):G:=h.elim λa h=>h.elim λb h=>k a b h.1 h.2.1 h.2.2.1 h.2.2.2
theorem x_15{α:Sort _}{A B C D E:α->Prop}{G:Prop}(h:∃ a,A a/\B a/\C a/\D a/\E a)(k:∀ a,A a->B a->C a->D a->E a->G):G:=h.elim λa h=>k a h.1 h.2.1 h.2.2.1 h.2.2.2.1 h.2.2.2.2
theorem x_23{α:Sort _}{β:Sort _}{A B C:α->β->Prop}{G:Prop}(h:∃ a b,A a b/\B a b/\C a b)(k:∀ a b,A a b->B a b->C a b->G):G:=h.elim λa h=>h.elim λb h=>k a b h.1 h.2.1 h.2.2
theorem x_52{α:Sort _}{β:Sort _}{γ:Sort _}{δ:Sort _}{ε:Sort _}{A B:α->β->γ->δ->ε->Prop}{G:Prop}(h:∃ a b c d e,A a b c d e/\B a b c d e)(k:∀ a b c d e,A a b c d e->B a b c d e->G):G:=h.elim λa h=>h.elim λb h=>h.elim λc h=>h.elim λd h=>h.elim λe h=>k a b c d e h.1 h.2
theorem x_31{α:Sort _}{β:Sort _}{γ:Sort _}{A:α->β->γ->Prop}{G:Prop}(h:∃ a b c,A a b c)(k:∀ a b c,A a b c->G):G:=h.elim λa h=>h.elim λb h=>h.elim λc h=>k a b c h
theorem sL{a b:List V}(h:some (O.lst a) = some (O.lst b)):a = b:=by injection h with h; injection h with h
theorem sI{α}{a b:α}(h:some a = some b):a = b:=by injection h with h
theorem sN{α}{f:α->Nat}{a b:α}{G:Prop}(e:Nat.beq (f a) (f b) = false)(h:some a = some b):G:=by injection h with h; subst h; rw [Nat.beq_refl] at e; cases e
def O.tag:O->Nat
 | .inst c _=>c + 5
 | .lst _=>0
 | .fL _=>1
 | .tup _=>2
 | .cu _ _=>3
theorem sO{a b:O}{G:Prop}(e:Nat.beq a.tag b.tag = false)(h:some a = some b):G:=sN e h
theorem YC{x:Option O}{a b:O}{G:Prop}(e:Nat.beq a.tag b.tag = false)(h:x = some a)(h':x = some b):G:=sN e (h.symm.trans h')
theorem Ks{α}{x:Option α}{a:α}{G:Prop}(h:x = none)(h':x = some a):G:=by subst h; cases h'
theorem sT2{Y:So}{z:Nat}{a b:O}{G:Prop}(e:Nat.beq a.tag b.tag = false)(q:z = y)(h:Y y = some a)(h':Y z = some b):G:=by subst q; exact YC e h h'
theorem sS2{α}{f:Nat->Option α}{z:Nat}{a:α}{G:Prop}(q:z = y)(h:f y = none)(h':f z = some a):G:=by subst q; exact Ks h h'
theorem sS3{α}{f:Nat->Option α}{z:Nat}{a:α}{G:Prop}(q:z = y)(h:f y = some a)(h':f z = none):G:=by subst q; exact Ks h' h
theorem YD{α}{x:Option α}{a b:α}(h:x = some a)(h':x = some b):a = b:=Option.some.inj (h.symm.trans h')
theorem sX2{α}{f:Nat->Option α}{z:Nat}{a b:α}(q:z = y)(h:f y = some a)(h':f z = some b):a = b:=by subst q; exact YD h h'
theorem sV{a b:V}{G:Prop}(e:Nat.beq a.ctorIdx b.ctorIdx = false)(h:some a = some b):G:=sN e h
open PySem PySem.W in
theorem wpT{α}{A:Around}{E:Value->Shared->Prop}{c:Prop} [Decidable c]{a b:Sem α}{Q:α->Shared->Prop}(hc:c)(h:wpAny M A a Q E s):wpAny M A (if c then a else b) Q E s:=by rw [if_pos hc]; exact h
open PySem PySem.W in
theorem YF{α}{A:Around}{E:Value->Shared->Prop}{c:Prop} [Decidable c]{a b:Sem α}{Q:α->Shared->Prop}(hc:¬ c)(h:wpAny M A b Q E s):wpAny M A (if c then a else b) Q E s:=by rw [if_neg hc]; exact h
open PySem PySem.W in
theorem aqq{α β}{A:Around}{E:Value->Shared->Prop}{c:Prop} [Decidable c]{a b:Sem α}{k:α->Sem β}{Q:β->Shared->Prop}(hc:c)(h:wpAny M A (a >>= k) Q E s):wpAny M A ((if c then a else b) >>= k) Q E s:=by rw [if_pos hc]; exact h
open PySem PySem.W in
theorem aqr{α β}{A:Around}{E:Value->Shared->Prop}{c:Prop} [Decidable c]{a b:Sem α}{k:α->Sem β}{Q:β->Shared->Prop}(hc:¬ c)(h:wpAny M A (b >>= k) Q E s):wpAny M A ((if c then a else b) >>= k) Q E s:=by rw [if_neg hc]; exact h
theorem nT{a b:O}(e:Nat.beq a.tag b.tag = false):a ≠ b:=λh=>by subst h; rw [Nat.beq_refl] at e; cases e
theorem nU{a b:O}(e:Nat.beq a.tag b.tag = false):some a ≠ some b:=λh=>nT e (sI h)
theorem nV{a b:V}(e:Nat.beq a.ctorIdx b.ctorIdx = false):a ≠ b:=λh=>by subst h; rw [Nat.beq_refl] at e; cases e
theorem E0{α}{a:α}{G:Prop}(h:a ∈ []):G:=absurd h List.not_mem_nil
theorem gE{α}{l r:List α}{a:α}:(l++a::r)[l.length]? = some a:=(List.getElem?_append_right (Nat.le_refl _)).trans (congrArg (λi=>(a::r)[i]?) (Nat.sub_self _))
inductive Lx
 | c (n:Nat)
 | v (i:Nat)
 | a (x y:Lx)
 | s (x y:Lx)
 | m (k:Nat) (x:Lx)
 | t (x:Lx)
inductive Lc
 | i (k:Nat) (x y:Lx)
 | j (k:Nat) (x y:Lx)
 | ff
def Lc.R{α} [LE α] [LT α](k:Nat)(x y:α):Prop:=match k with
 | 0=>x <= y
 | 1=>x < y
 | 2=>x = y
 | 3=>¬ x <= y
 | 4=>¬ x < y
 | _=>x = y
def Lx.at{α}(z:α):List α->Nat->α
 | [],_=>z
 | x::_,0=>x
 | _::r,i + 1=>Lx.at z r i
def Lx.e(w:List Nat):Lx->Nat
 | .c n=>n
 | .v i=>Lx.at 0 w i
 | .a x y=>x.e w + y.e w
 | .m k x=>k * x.e w
 | _=>0
def Lx.d(l:List Int)(w:List Nat):Lx->Int
 | .c n=>Int.ofNat n
 | .v i=>Lx.at 0 l i
 | .a x y=>x.d l w + y.d l w
 | .s x y=>x.d l w - y.d l w
 | .m k x=>Int.ofNat k * x.d l w
 | .t x=>((x.e w:Nat):Int)
def Lc.d(l:List Int)(w:List Nat):Lc->Prop
 | .i k x y=>Lc.R k (x.d l w) (y.d l w)
 | .j k x y=>Lc.R k (x.e w) (y.e w)
 | .ff=>False
def Lx.ok:Lx->Bool
 | .a x y=>x.ok && y.ok
 | .m _ x=>x.ok
 | .c _=>true
 | .v _=>true
 | _=>false
def pa:List Int->List Int->List Int
 | [],q=>q
 | p,[]=>p
 | x::p,y::q=>(x + y)::pa p q
def pk(k:Int):List Int->List Int
 | []=>[]
 | x::p=>k * x::pk k p
def pv:Nat->List Int
 | 0=>[1]
 | i + 1=>0::pv i
def pe(f:Nat->Int):List Int->Int
 | []=>0
 | c::p=>c * f 0 + pe (λi=>f (i + 1)) p
def Lx.q:Lx->List Int
 | .c n=>[Int.ofNat n]
 | .v i=>pv (2 * i + 2)
 | .a x y=>pa x.q y.q
 | .m k x=>pk (Int.ofNat k) x.q
 | _=>[]
def o2(f:List Int->List Int->List Int)(x y:Option (List Int)):Option (List Int):=x.bind λp=>y.map (f p)
theorem Dz{f:List Int->List Int->List Int}{x y:Option (List Int)}{r:List Int}{P:Prop}(h:o2 f x y = some r)(k:∀ p q,x = some p->y = some q->f p q = r->P):P:=(Option.bind_eq_some_iff.mp h).elim λp z=>(Option.map_eq_some_iff.mp z.2).elim λq v=>k p q z.1 v.1 v.2
def Lx.p:Lx->Option (List Int)
 | .c n=>some [Int.ofNat n]
 | .v i=>some (pv (2 * i + 1))
 | .a x y=>o2 pa x.p y.p
 | .s x y=>o2 (λp q=>pa p (pk (-1) q)) x.p y.p
 | .m k x=>o2 (λp _=>pk (Int.ofNat k) p) x.p (some [])
 | .t x=>bif x.ok then some x.q else none
def Lx.r(b:Bool)(x:Lx):Option (List Int):=bif b then (Lx.t x).p else x.p
def pl(b:Bool)(x y:Lx)(k:Int):Option (List Int):=o2 (λp q=>pa [k] (pa p (pk (-1) q))) (x.r b) (y.r b)
def Lc.P(b:Bool)(k:Nat)(x y:Lx):Option (List Int):=match k with
 | 1=>pl b x y 1
 | 3=>pl b y x 1
 | 4=>pl b y x 0
 | _=>pl b x y 0
def Lc.G(b:Bool)(k:Nat)(x y:Lx):Option (List Int):=match k with
 | 0=>pl b y x 1
 | 1=>pl b y x 0
 | 3=>pl b x y 0
 | 4=>pl b x y 1
 | _=>none
def Lc.p:Lc->Option (List Int)
 | .i k x y=>Lc.P false k x y
 | .j k x y=>Lc.P true k x y
 | .ff=>none
def Lc.g:Lc->Option (List Int)
 | .i k x y=>Lc.G false k x y
 | .j k x y=>Lc.G true k x y
 | .ff=>some []
def Lc.F(k:Nat)(c:Int):Int:=if k = 2 then c else Int.ofNat c.natAbs
def Lc.f:Lc->Int->Int
 | .i k _ _,c=>Lc.F k c
 | .j k _ _,c=>Lc.F k c
 | .ff,c=>c
def Lc.sm:List Lc->List Int->Option (List Int)
 | [],_=>some []
 | h::hs,l=>l.casesOn (some []) λk ks=>o2 (λp q=>pa (pk (h.f k) p) q) h.p (Lc.sm hs ks)
def cz(b:Bool)(l:List Int):Bool:=l.rec (λ_=>true) (λc _ z b=>(bif b then decide (0 <= c) else c == 0) && z (!b)) b
def hp:List Int->Bool
 | []=>false
 | c::r=>decide (0 < c) && cz false r
def Lc.ck(g:Lc)(hs:List Lc)(l:List Int):Bool:=l.casesOn false λk ks=>(o2 (λp q=>pa (pk (Int.ofNat k.natAbs) p) q) g.g (Lc.sm hs ks)).any hp
def Lc.im(d:Lc->Prop)(G:Prop):List Lc->Prop
 | []=>G
 | h::hs=>d h->Lc.im d G hs
def cF(l:List Int)(w:List Nat):Nat->Int
 | 0=>1
 | i + 1=>if i % 2 = 0 then Lx.at 0 l (i / 2) else ((Lx.at 0 w (i / 2):Nat):Int)
theorem DB{f:Nat->Int}{p q:List Int}:pe f (pa p q) = pe f p + pe f q:=by
 induction p generalizing f q with
 | nil=>cases q <;> exact (Int.zero_add _).symm
 | cons c p ih =>
  cases q with
  | nil=>exact (Int.add_zero _).symm
  | cons e q =>
   show (c + e) * f 0 + pe _ (pa p q) = c * f 0 + pe _ p + (e * f 0 + pe _ q)
   rw [ih,Int.add_mul,Int.add_assoc,Int.add_assoc,Int.add_left_comm (e * f 0)]
theorem E3{k:Int}{f:Nat->Int}{p:List Int}:pe f (pk k p) = k * pe f p:=by
 induction p generalizing f with
 | nil=>exact (Int.mul_zero k).symm
 | cons c p ih =>
  show k * c * f 0 + pe _ (pk k p) = k * (c * f 0 + pe _ p)
  rw [ih,Int.mul_add,Int.mul_assoc]
theorem Kt{n:Int}:n * 1 + 0 = n:=by rw [Int.mul_one,Int.add_zero]
theorem QM{i:Nat}{f:Nat->Int}:pe f (pv i) = f i:=by
 induction i generalizing f with
 | zero=>show 1 * f 0 + 0 = f 0; rw [Int.one_mul,Int.add_zero]
 | succ i ih=>show 0 * f 0 + pe _ (pv i) = f (i + 1); rw [ih,Int.zero_mul,Int.zero_add]
theorem Lx.qd{x:Lx}:x.ok = true->pe (cF l w) x.q = ((x.e w:Nat):Int):=by
 induction x with
 | c n=>exact λ_=>Kt
 | v i =>
  intro _
  show pe _ (pv _) = ((Lx.at 0 w i:Nat):Int)
  rw [QM]
  show (if (2 * i + 1) % 2 = 0 then _ else ((Lx.at 0 w ((2 * i + 1) / 2):Nat):Int)) = _
  rw [if_neg (by rw [Nat.mul_add_mod]; decide),show (2 * i + 1) / 2 = i from Nat.mul_add_div (by decide) i 1]
 | a x y hx hy =>
  intro h
  have h:=Bool.and_eq_true_iff.mp h
  exact DB.trans (congr (congrArg _ (hx h.1)) (hy h.2))
 | m k x hx=>exact λh=>E3.trans (congrArg _ (hx h))
 | _=>exact λh=>(Bool.false_ne_true h).elim
theorem Lx.pd{x:Lx}:∀ {p:List Int},x.p = some p->pe (cF l w) p = x.d l w:=by
 induction x with
 | c n=>exact λh=>Option.some.inj h ▸ Kt
 | v i =>
  refine λh=>Option.some.inj h ▸ ?_
  rw [QM]
  show (if (2 * i) % 2 = 0 then Lx.at 0 l ((2 * i) / 2) else _) = Lx.at 0 l i
  rw [if_pos (Nat.mul_mod_right 2 i),show 2 * i / 2 = i from Nat.mul_div_cancel_left i (by decide)]
 | a x y hx hy=>exact λh=>Dz h λp q a b e=>e ▸ DB.trans (congr (congrArg _ (hx a)) (hy b))
 | s x y hx hy=>exact λh=>Dz h λp q a b e=>e ▸ DB.trans ((congr (congrArg _ (hx a)) (E3.trans ((Int.neg_one_mul _).trans (congrArg _ (hy b))))).trans Int.sub_eq_add_neg.symm)
 | m k x hx=>exact λh=>Dz h λp q a b e=>e ▸ E3.trans (congrArg _ (hx a))
 | t x _ =>
  intro p h
  have h:(bif x.ok then some x.q else none) = some p:=h
  cases q:x.ok with
  | true=>rw [q] at h; exact Option.some.inj h ▸ x.qd q
  | false=>rw [q] at h; cases h
def Lx.z(l:List Int)(w:List Nat)(b:Bool)(x:Lx):Int:=bif b then ((x.e w:Nat):Int) else x.d l w
theorem Lx.rd{x:Lx}{p:List Int}(e:x.r b = some p):pe (cF l w) p = x.z l w b:=by
 cases b with
 | true=>exact Lx.pd (x:=.t x) e
 | false=>exact Lx.pd e
theorem Ku{x y:Lx}{k:Int}{p:List Int}(h:pl b x y k = some p):pe (cF l w) p = k + (x.z l w b - y.z l w b) :=
 Dz h λp q a b e=>e ▸ DB.trans (congr (congrArg _ Kt) (DB.trans ((congr (congrArg _ (Lx.rd a)) (E3.trans ((Int.neg_one_mul _).trans (congrArg _ (Lx.rd b))))).trans Int.sub_eq_add_neg.symm)))
theorem Im{x y:Lx}{p:List Int}(h:pl b x y 1 = some p)(e:x.z l w b < y.z l w b):pe (cF l w) p <= 0:=by rw [Ku h,<- Int.add_sub_assoc,Int.add_comm 1]; exact Int.sub_nonpos_of_le e
theorem Io{x y:Lx}{p:List Int}(h:pl b x y 0 = some p)(e:x.z l w b <= y.z l w b):pe (cF l w) p <= 0:=by rw [Ku h,Int.zero_add]; exact Int.sub_nonpos_of_le e
theorem QN{x y:Lx}{c:Int}{p:List Int}(h:pl b x y 0 = some p)(e:x.z l w b = y.z l w b):c * pe (cF l w) p <= 0:=by rw [Ku h,e,Int.sub_self,Int.add_zero,Int.mul_zero]; exact Int.le_refl _
theorem E4{c:Int}{e:Int}(h:e <= 0):Int.ofNat c.natAbs * e <= 0:=Int.mul_nonpos_of_nonneg_of_nonpos (Int.natCast_nonneg _) h
theorem QO{k:Nat}{x y:Lx}:Lc.R k (x.e w) (y.e w) ↔ Lc.R k (x.z l w true) (y.z l w true):=by
 rcases k with _ | _ | _ | _ | _ | k
 ·exact Int.ofNat_le.symm
 ·exact Int.ofNat_lt.symm
 ·exact Int.ofNat_inj.symm
 ·exact not_congr Int.ofNat_le.symm
 ·exact not_congr Int.ofNat_lt.symm
 ·exact Int.ofNat_inj.symm
theorem QP{x y:Lx}{c:Int}{p:List Int}{k:Nat}(h:Lc.P b k x y = some p)(e:Lc.R k (x.z l w b) (y.z l w b)):Lc.F k c * pe (cF l w) p <= 0:=by
 rcases k with _ | _ | _ | _ | _ | k
 ·exact E4 (Io h e)
 ·exact E4 (Im h e)
 ·exact QN h e
 ·exact E4 (Im h (Int.not_le.mp e))
 ·exact E4 (Io h (Int.not_lt.mp e))
 ·exact QN h e
theorem QQ{x y:Lx}{p:List Int}{k:Nat}(h:Lc.G b k x y = some p)(e:¬ Lc.R k (x.z l w b) (y.z l w b)):pe (cF l w) p <= 0:=by
 rcases k with _ | _ | _ | _ | _ | k
 ·exact Im h (Int.not_le.mp e)
 ·exact Io h (Int.not_lt.mp e)
 ·cases h
 ·exact Io h (Decidable.not_not.mp e)
 ·exact Im h (Decidable.not_not.mp e)
 ·cases h
theorem Lc.pd{c:Int}{h:Lc}{p:List Int}(u:h.p = some p)(e:h.d l w):h.f c * pe (cF l w) p <= 0:=by
 cases h with
 | i=>exact QP u e
 | j=>exact QP (l:=l) u (QO.mp e)
 | ff=>cases u
theorem Lc.gd{h:Lc}{p:List Int}(u:h.g = some p)(e:¬ h.d l w):pe (cF l w) p <= 0:=by
 cases h with
 | i=>exact QQ u e
 | j=>exact QQ (l:=l) u λq=>e (QO.mpr q)
 | ff=>exact Option.some.inj u ▸ Int.le_refl _
theorem QR{w p q:List Int}{f:Nat->Int}{c:Int}(e:pa (pk c p) q = w)(h:c * pe f p <= 0)(i:pe f q <= 0):pe f w <= 0:=e ▸ DB.symm ▸ E3.symm ▸ Int.add_nonpos h i
theorem Lc.YG{hs:List Lc}:∀ {ks p:List Int},Lc.sm hs ks = some p->(∀ h ∈ hs,h.d l w)->pe (cF l w) p <= 0:=by
 induction hs with
 | nil=>exact λh _=>Option.some.inj h ▸ Int.le_refl _
 | cons h hs ih =>
  intro ks p q e
  cases ks with
  | nil=>exact Option.some.inj q ▸ Int.le_refl _
  | cons k ks=>exact Dz q λx y a b z=>QR z (Lc.pd a (e h (.head _))) (ih b λx hx=>e x (.tail _ hx))
theorem YH{p:List Int}:∀ {b:Bool} {f:Nat->Int},(∀ i,(cond b 0 1 = i % 2)->0 <= f i)->cz b p = true->0 <= pe f p:=by
 induction p with
 | nil=>exact λ_ _=>Int.le_refl _
 | cons c p ih =>
  intro b f hf h
  have h:=Bool.and_eq_true_iff.mp h
  have h1:=ih (f:=λi=>f (i + 1)) (λi hi=>hf (i + 1) (by
   rw [Nat.add_mod,<- hi]
   cases b <;> rfl)) h.2
  cases b with
  | true=>exact Int.add_nonneg (Int.mul_nonneg (of_decide_eq_true h.1) (hf 0 rfl)) h1
  | false =>
   show 0 <= c * f 0 + pe _ p
   rw [show c = 0 from beq_iff_eq.mp h.1,Int.zero_mul,Int.zero_add]; exact h1
theorem YJ{p:List Int}(h:hp p = true)(e:pe (cF l w) p <= 0):False:=by
 cases p with
 | nil=>cases h
 | cons c r =>
  have h:=Bool.and_eq_true_iff.mp h
  exact absurd e (Int.not_le.mpr (Int.add_pos_of_pos_of_nonneg (by rw [show cF l w 0 = 1 from rfl,Int.mul_one]; exact of_decide_eq_true h.1) (YH (f:=λi=>cF l w (i + 1)) (λi hi=>by
   show 0 <= if i % 2 = 0 then _ else _
   rw [if_neg (by rw [<- hi]; decide)]; exact Int.natCast_nonneg _) h.2)))
theorem YK{x:Option (List Int)}{P:Prop}(h:x.any hp = true)(k:∀ p,x = some p->hp p = true->P):P:=by
 cases x with
 | none=>cases h
 | some p=>exact k p rfl h
theorem Lc.sd{g:Lc}{hs:List Lc}{ks:List Int}(e:g.ck hs ks = true)(H:∀ h ∈ hs,h.d l w):g.d l w:=by
 refine Classical.byContradiction λn=>?_
 cases ks with
 | nil=>cases e
 | cons k ks =>
  exact YK e λp u v=>Dz u λx y a b z=>YJ v (QR z (E4 (Lc.gd a n)) (Lc.YG b H))
theorem Kw{d:Lc->Prop}{G:Prop}{hs:List Lc}(k:(∀ h ∈ hs,d h)->G):Lc.im d G hs:=by
 induction hs with
 | nil=>exact k λ_ h=>E0 h
 | cons h hs ih=>exact λx=>ih λH=>k λy hy=>(List.mem_cons.mp hy).elim (λe=>e ▸ x) (H y)
theorem li(l:List Int)(w:List Nat)(g:Lc)(hs:List Lc)(ks:List Int)(e:g.ck hs ks = true):Lc.im (Lc.d l w) (g.d l w) hs:=Kw λH=>Lc.sd e H
theorem le2(l:List Int)(w:List Nat)(x y:Lx)(hs:List Lc)(ks js:List Int)(e:(Lc.i 0 x y).ck hs ks = true)(e':(Lc.i 0 y x).ck hs js = true):Lc.im (Lc.d l w) (x.d l w = y.d l w) hs:=Kw λH=>Int.le_antisymm (Lc.sd e H) (Lc.sd e' H)
theorem ln2(l:List Int)(w:List Nat)(x y:Lx)(hs:List Lc)(ks js:List Int)(e:(Lc.j 0 x y).ck hs ks = true)(e':(Lc.j 0 y x).ck hs js = true):Lc.im (Lc.d l w) (x.e w = y.e w) hs:=Kw λH=>Nat.le_antisymm (Lc.sd (l:=l) e H) (Lc.sd (l:=l) e' H)
end Tactic
local macro_rules (kind:=Lean.Parser.Tactic.obtain)
 | s =>
  let p:=s[1][0]
  let t:=s[3][1][0]
  let h:=if s[2].getNumArgs == 0 then t else Tactic.zM "typeAscription" [Tactic.zM "hygienicLParen" [Tactic.zA "(",.node .none `hygieneInfo #[Tactic.zI ""]],t,Tactic.zA ":",Tactic.zN [s[2][1]],Tactic.zA ")"]
  pure (Tactic.tF [Tactic.QH h p,Tactic.QI h p "Tactic.x_02",Tactic.QI h p "Tactic.x_11",Tactic.tA h (Tactic.zT "rcasesPatLo" [p,Tactic.zN []])])
local macro_rules (kind:=Lean.Parser.Tactic.rcases)
 | s =>
  let h:=s[1][0][1]
  let p:=s[2][1]
  Tactic.zO (s[1].getNumArgs == 1 && s[1][0][0].getNumArgs == 0 && !h.isOfKind `Lean.Parser.Term.paren && p[1].getNumArgs == 0) (Tactic.tF [Tactic.QH h p[0],Tactic.tA h p])
local macro_rules (kind:=Lean.Parser.Tactic.rintro)
 | s=>Tactic.zO (s[2].getNumArgs == 0 && s[1].getArgs.all (·.isOfKind `Lean.Parser.Tactic.rintroPat.one)) (Tactic.tS (Tactic.QJ 0 s[1].getArgs.toList))
local macro_rules (kind:=Lean.Parser.Tactic.simp)
 | s=>Tactic.zO (s[3].getNumArgs == 0 && s[4].getNumArgs == 0 && s[5].getNumArgs == 0 && s[1][0].getNumArgs == 0) Tactic.cls
local macro_rules (kind:=Lean.Parser.Tactic.cases)
 | s=>Tactic.zO (s[1][0][1].isIdent && s[1][0][0].getNumArgs == 0 && s[2].getNumArgs == 0 && s[3].getNumArgs == 0) (Tactic.QK s[1][0][1])
local macro_rules (kind:=Lean.Parser.Tactic.rwSeq)
 | s =>
  let r:=Tactic.ss s[2][1]
  let h:=s[3][0][1][0][0]
  if s[3].getNumArgs == 0 then pure (Tactic.Yz r)
  else Tactic.zO (h.isIdent && s[3][0][1][0].getNumArgs == 1 && !r.any Tactic.qs) (Tactic.QL h s[3][0] r)
local macro_rules (kind:=Lean.Parser.Tactic.«tacticExists_,,»)
 | s=>pure (Tactic.tF (["Tactic.aqo","Tactic.Q5","Tactic.aql","Tactic.vN","Tactic.aqn","Tactic.aqm","Tactic.aqk","Tactic.aqj","Tactic.anB","Tactic.aqp","Tactic.aoC","Tactic.aoO"].map λn=>Tactic.tR (Tactic.ap n [s[1][0],Tactic.zq])))
local macro_rules (kind:=Lean.Parser.Tactic.«tacticNomatch_,,»)
 | s=>pure (Tactic.YB (Tactic.ss s[1]))
local macro_rules (kind:=Lean.Parser.Term.anonymousCtor)
 | s =>
  let l:=Tactic.ss s[1]
  match l.head?.bind (·.isStrLit?) with
  | some t=>pure (Tactic.pS t l.tail)
  | none=>Lean.Macro.throwUnsupported
open Array renaming mk->cf,getElem?_eq_some_iff->rV,getElem?_toList->yc,toList_append->yd
open Bool renaming false_ne_true->aF,and_eq_true->bx,and_eq_true_iff->dN,or_eq_true_iff->dO,false_eq_true->rW,true_and->rX,true_or->rY
open Classical renaming em->oH
open Decidable renaming em->lS,not_iff_not->ye
open False renaming elim->fO
open ForInStep renaming yield->gQ
open Int renaming toNat_of_nonneg->aH,le_trans->bO,le_of_lt->cH,not_lt->cg,max_eq_right->fP,ofNat_le->dP,lt_iff_le_and_ne->iW,lt_of_le_of_lt->kj,natAbs_of_nonneg->lT,lt_trans->gR,lt_irrefl->iX,eq_ofNat_of_zero_le->oI,min_eq_left->lU,natCast_nonneg->oJ,lt_of_lt_of_le->oK,le_refl->km,natAbs_neg->rZ,lt_add_of_pos_right->yf,ofNat_lt->r4,toNat_le->r5,fmod_nonneg_of_pos->yg,lt_add_one_of_le->yh,not_le->r6,max_lt->r7,add_sub_cancel->yi,fmod_lt_of_pos->yj,sub_pos_of_lt->yk,toNat_natCast->yl,min_eq_right->ym,le_max_right->yn,ofNat->r9,max_eq_left->yo,neg_le_neg->yp,le_natAbs->yq,ofNat_inj->yr
open List renaming getElem?_eq_getElem->aS,mem_cons->az,size_toArray->aM,mem_append->aJ,all_eq_true->aY,nodup_cons->aX,lookup_cons->bA,nodup_append->bF,mem_map->aQ,append_nil->bG,replicate->bH,mem_append_left->cj,length_map->bP,mem_append_right->cQ,getElem?_eq_none->di,map_cons->bQ,mem_of_getElem?->dp,length_append->cR,length_eq_zero_iff->eu,getElem?_append_left->eY,getD_eq_getElem?_getD->fQ,getElem?_append_right->fS,zip_cons_cons->dQ,append_assoc->dR,casesOn->cU,pairwise_cons->eZ,getElem?_eq_some_iff->iY,contains_iff_mem->gS,dropLast_concat_getLast->kr,getElem_of_mem->gT,cons_append->fU,range->dA,find?_cons->fV,map_append->fW,length->dS,getElem_mem->gU,mem_of_find?_eq_some->lV,mem_filter->gV,mem_range->gW,mem_singleton->ku,length_zip->iZ,exists_cons_of_ne_nil->oM,replicate_succ->lW,eraseDups_cons->lX,of_mem_zip->ky,mem_filterMap->lY,filter_append->lZ,filter_cons_of_pos->oN,filter_cons_of_neg->oO,getElem?_replicate->oP,map_map->i5,getElem?_map->mq,length_replicate->oQ,any_eq_true->mr,length_drop->mv,map_fst_zip->mw,getElem_toArray->oR,filterMap_cons->oS,length_pos_iff->oU,append_eq_append_iff->sf,map_inj_left->oW,lookup->kz,getElem_zip->oX,isEmpty_iff->oY,perm_middle->oZ,take_of_length_le->sg,find?_some->o5,forIn_cons->o6,nil_append->o7,nodup_nil->o9,drop_eq_nil_iff->si,any_cons->pg,append_of_mem->sj,reverse_cons->sk,flatten_cons->sr,pairwise_map->sC,length_take->sE,not_mem_nil->sF,drop_drop->sG,drop_eq_getElem_cons->yt,mem_or_eq_of_mem_set->yu,drop_of_length_le->yv,getElem?_toArray->yw,perm_append_comm->yy,take_append_drop->yz,eq_nil_or_concat->yB,range_eq_range'->yC,map_congr_left->yD,mem_map_of_mem->yG,filter_sublist->yH,contains_cons->yJ,findIdx?_cons->yK,getElem?_set->yL,length_cons->yM,length_set->yN,foldl_cons->yO,length_nil->yP,take_nil->yQ,toArray->yS
open List.Perm renaming append_right->yU,cons->yV
open Nat renaming eq_of_beq_eq_true->bL,beq->ai,le_of_ble_eq_true->dT,ne_of_lt->b9,le_refl->cy,lt_or_ge->dq,min_le_left->fe,zero_le->fh,min_le_right->mx,blt->dU,lt_irrefl->kC,le_succ->i6,le_trans->kE,eq_zero_or_pos->ph,beq_refl->my,not_lt->kF,le_of_lt->mz,add_sub_cancel'->sH,lt_succ_of_lt->sJ,min_eq_right->sM,min_eq_left->sP,sub_le->pj,succ->mB,le_total->sR,ne_of_gt->sS,zero_add->sU,le_of_sub_eq_zero->y4,lt_or_eq_of_le->y5,sub_add_cancel->y6,le_of_lt_succ->y7,succ_ne_self->y8,strongRecOn->y9,le_antisymm->za,add_assoc->zb
open Nat.succ renaming inj->fX
open Ne renaming symm->aj
open Option renaming none->aP,casesOn->dr,map_eq_some_iff->mC,isSome_iff_exists->pn,isNone_iff_eq_none->sW,map_some->pq,bind_eq_some_iff->zc,map->sX
open Option.some renaming inj->bR
open PyProof.Rows renaming seqObj->bX,spliced_more->i7,eq_str->zf,get?_update_seq->sY,tail_any->mD,listUpdate_at->sZ,listItems_at->ti,plain_sorted->tj,entry_sorted->tm,args_sorted1->tq,kind_sorted->tu,Subscript_->tv,sortedHeap->tB,size_push'->tD
open PySem renaming wpAny_bind->ah,wpAny_pure->aq,wpAny->ae,model->ag,Params->ak,Env->aD,wpAny_mono->aI,wpAny_holding->bY,starEach->bC,sizeLine_eq->cq,Around->bp,World->aK,wpAny_loadPart_at->fY,intKind->bT,wpAny_truthy_bool->gX,treeTable->dB,wpAny_standAt->fZ,NameKind->du,rawInt->bZ,codeAny->cW,assignEach->fj,wpAny_typeLookup_exc->mE,slot_list_setitem->pB,backTo->cA,DictEntry->fk,OsState->dJ,Arguments->gb,Builtin->ft,notedBy->dW,Spec->QS,wpAny_field->i9,wpAny_execs_nil->mF,letOwnedTupleGo->mG,compareOp->gY,typeLookup->ja,wpAny_bindName->mH,Addr->bU,getMethod_builtin->pD,excClassObj->kG,wpAny_newList->mI,swappedStores->mJ,wpAny_call_entry->pE,wpAny_execs_cons->pF,assign->ew,valueAt->pG,builtinLookup_eq_fast->tH,keeperOf->jb,bindName->jc,wpAny_newFunctionEnv->tJ,compEnvC->jd,codeAmong->kH,spliced->gZ,Const->dX,evalPart_none->pH,evalPart_some->pI,assignInOrder->pJ,wpAny_Constant_str->tK,wpAny_Constant_int->tL,wpAny_call->mK,holding->je,wpAny_newObj_type->tM,wpAny_typeOf->pL,wpAny_assign_Name->tN,entry_list_setitem->zg,noteFrame->mL,subscripted->pM,args_list_setitem->zh,importedModules->tQ,typeLookup_type->tT,codeAny_of_tree->tV,theTreesLotGoes->t5,constantsAlone->t7,call_meets->pN,wpAny_listPart->t8,wpAny_setField->t9,wpAny_UnaryOp->ua,wpAny_getItem_list_slice->zi,TriplesOk->pO,wpAny_callSpecial?_slot->zj,swapsWith->pP,setFlight->pQ,stored->kJ,bootBuiltins->ub,codeAny_mono->uc,wpAny_pyNext_list_item->zk,setAttr->mM,setItem->mO,wpAny_pyNext_list_end->zp,wpAny_storeName_local->zr,codeAny_call_function->zt,CmpOp->jf,Operator->pT,wpAny_Slice->ud,wpAny_noted->uf,codeAny_call_builtin->zu,wpAny_isSubtype_exc->zC,wpAny_Name->ug,arm_eval_Attribute->zE,clipAt->mQ,checkCount->uh,getattributeRaised->zF,Result->mR,pyNext->mS,wpAny_assign_Tuple->zG,operate->pU,getItem->pV,wpAny_pyIter_list->zJ,wpAny_sequenceKey->zP,wpAny_Return_some->zR
open PySem.Around renaming frames_deeper->ui
open PySem.Builtin.List renaming listSubscript?->uj,listTooLong->uk,listSameRef->zS
open PySem.Calls renaming evalArgs_plain->mU,spliced_nil->mV,Name_function_global->zV
open PySem.Challenge renaming rw_on0074_01->um,pw_on0074_01->E5
open PySem.Code renaming builtin->pW
open PySem.EntryCells renaming newEntry->uo
open PySem.Env renaming kindOf->cY,builtins->uq,globals->uw,locals->ux,scope->uy,cells->zW,frame->zX,code->zY,qual->zZ
open PySem.Expr renaming casesOn->dC
open PySem.F renaming slot_list_getattribute->uz,slot_list_getitem->uA,plainAttrs_list->uB,slot_list_extend->z6,slot_dict_items->z7
open PySem.Heap renaming get?_push_of_some->aZ,get?_push_size->cJ,lt_size->bM,get?_none_of_le->gf,get?_update_other->kK,ExtBut->dY,get?_update_self->mW,SameBut->jg,get?_update_ne->pY,size_push->mX,get?_push_ne->pZ,size_update->uC
open PySem.Heap.SameBut renaming update->mY
open PySem.IsL renaming isList->dZ
open PySem.Keeper renaming boundFrame->jh,machine->ji,frame->jj
open PySem.NameKind renaming free->mZ,cell->p6,«local»->z8
open PySem.Obj renaming mapSeq->cZ,mapFields->fu,data_mapFields->p8,isFreed_of_fields->z9,cls_mapFields->Aa
open PySem.PyData renaming keyHash->jk,depthAll->p9,strOk->Ab,canLayAll0->Ac,eqvAll->Ad,eqv->Ae
open PySem.Str renaming ofString->ax
open PySem.Value renaming ref->aC,none->dK,builtin->kL,isInt->m6,type->qa,casesOn->Af
open PySem.W renaming hideAll->d6,piece_app->hJ,segRun_of->hO,callWith_of->kM,piecesOf->hV,boot_heap->jl,segRunT->hW,emptyDict->kN,tabObj->hZ,hideAll_get->qb,instObj->kP,kas_sort->m7,findIn->kQ,kla_obj->m8,plainGet_of->uD,Looks->jm
open PySem.W.Fast renaming te14364793385576792824->ey,te10110043849684766642->ia
local macro_rules (kind:=Lean.Parser.Tactic.show)
 | s=>pure (Tactic.tF [Tactic.tR s[1],Tactic.zT "change" [Tactic.zA "change",s[1],Tactic.zN []]])
local macro_rules (kind:=Lean.Parser.Tactic.exact)
 | s=>pure (Tactic.tR s[1])
local macro_rules (kind:=Lean.Parser.Tactic.intros)
 | s=>pure (Tactic.zT "intro" [Tactic.zA "intro",Tactic.zN (["J","w","bz","F","W","A","f","sc","m","Y0","s0","Y","s"].map Tactic.zI)])
local macro_rules (kind:=char)
 | s=>pure (Tactic.zzV (match s.isCharLit? with
  | some c=>Tactic.zn (if c.toNat < 127 then c.toNat - 35 else c.toNat - 75)
  | none=>Tactic.zH))
local macro_rules (kind:=scientific)
 | s=>let l:=(s[0].getAtomVal.splitOn ".").map λx=>Tactic.zn x.toNat!
  pure (Tactic.zzA "attr" (Tactic.zzV l.head!::l.tail))
namespace Lh.Tactic
open PySem PySem.W PySem.Calls PyProof.Rows
noncomputable section
def pw:Program:=E5
def aV(i:Nat):Stmt:=pw.main.body.getD i (.Pass ⟨0,0,0,0⟩)
def st(i:Nat):Stmt:=aV i
def su(i j:Nat):Stmt:=match aV i with
 | .ClassDef _ _ _ b _ _ _ _ _ _ _=>b.getD j (.Pass ⟨0,0,0,0⟩)
 |s=>s
def rC:Stmt->gb
 | .FunctionDef _ a _ _ _ _ _ _ _ _=>a
 |_=>⟨[],[],none,[],[],none,[]⟩
def vG:Stmt->List Stmt
 | .FunctionDef _ _ b _ _ _ _ _ _ _=>b
 |_=>[]
def eW:Stmt->Scope
 | .FunctionDef _ _ _ _ _ _ s _ _ _=>s
 |_=>{ kind:=.function,names:=[],isGenerator:=false,isCoroutine:=false,more:=[]}
abbrev S(x:String)(t:Nat):Value:=.str (ax x) t
abbrev I(i:Int):Value:=.int i 0
abbrev It(i:Int)(t:Nat):Value:=.int i t
abbrev R(a:Nat):Value:=.ref a
abbrev B(b:Bool):Value:=.bool b
abbrev cC:=S "emacs.intervals" 308
abbrev fM:=S "emacs.textprops" 591
abbrev iz:=S "law_on0074_01" 1693
abbrev jn:=S "emacs.buffer" 1114
abbrev me:=S "emacs.undolist" 1394
abbrev kR:=S "emacs.gap" 852
abbrev kU:=S "emacs.editing" 1253
abbrev mh:=S "emacs.plists" 227
abbrev mi:=S "emacs.markers" 972
abbrev mj:=S "emacs.bufferprops" 779
abbrev uE:=S "emacs.primundo" 1533
abbrev ml:=S "emacs.recording" 1635
abbrev Bu:=S "emacs.piecing" 1364
abbrev mn:=S "emacs.errors" 194
abbrev DC:=S "emacs.objects" 1070
abbrev E6:=S "emacs.pieces" 1602
abbrev N:Value:=.none
abbrev Ty(x:String):Value:=.type x
abbrev Bi(x:String):Value:=.builtin x
def T0:Obj:={ cls:=.type "tuple",data:=.seq (cf [])}
def T(l:List Value):Obj:={ cls:=.type "tuple",data:=.seq (cf l)}
def QT:List String->Nat->List Value
 | [],_=>[]
 |x::r,t=>.str (ax x) t::QT r (t+1)
def Tn(l:List String)(t:Nat):Obj:={ cls:=.type "tuple",data:=.seq (cf (QT l t))}
def F0:Obj:={ cls:=.none,data:=.fields (cf [])}
def F(l:List Value):Obj:={ cls:=.none,data:=.fields (cf l)}
def Co(nm ql:String)(t:Nat)(ln np fl:Int)(ra:Nat)(YL:Bool)(rf:Nat)(YM YN YQ:Value)(tk:Int)(t':Nat):Obj:=
 { cls:=.type "code",data:=.fields (cf [.str (ax nm) t,.str (ax ql) (t+1),.str (ax "/claim/cut.py") (t+2),.int ln 0,.int np 0,.int 0 0,.int 0 0,.int fl 0,.ref ra,.bool YL,.int 181 0,.ref rf,.none,YM,YN,YQ,.int tk 0,.int ln 0,.str (ax "/claim/cut.py") t'])}
def Fm(l:List (Option Value)):Obj:={ cls:=.type "frame",slots:=cf l}
def qL(P:ak):List (String×Nat×Value)->List fk
 | []=>[]
 |(x,t,v)::r=>⟨jk P (ax x),.str (ax x) t,v⟩::qL P r
def D(P:ak)(l:List (String×Nat×Value))(n:Nat):Obj:={ cls:=.type "dict",data:=.dict (cf (qL P l)) n}
def D0(P:ak)(l:List (String×Nat×Value))(n:Nat):Obj:={ cls:=.none,data:=.dict (cf (qL P l)) n}
def X(c:String)(l:List Value):Obj:={ cls:=.type c,data:=.fields (cf l)}
def Cl(nm ql:String)(bs mro:List Value)(ns:Nat)(sub:List Value)(sl:List (Option Value)):Obj:=
 { cls:=.type "type",data:=.cls { name:=ax nm,bases:=bs,mro:=mro,ns:=ns,qualname:=ax ql,subclasses:=sub},slots:=cf sl}
def Fh(nm ql:String)(s:Stmt):Obj:=
 { cls:=.none,data:=.func { name:=ax nm,qualname:=ax ql,params:=rC s,body:=.stmts (vG s),scope:=eW s,globals:=0,closure:=[],defaults:=.none,kwdefaults:=.none}}
def Fn(nm ql:String)(s:Stmt)(dV pm cd:Value):Obj:=
 { cls:=.type "function",data:=.func { name:=ax nm,qualname:=ax ql,params:=rC s,body:=.stmts (vG s),scope:=eW s,globals:=3,closure:=[],defaults:=dV,kwdefaults:=.none,pyModule:=pm,code:=cd}}
def bI(x:String):=Fn x x
def bB(x:String):=Co x x
def bJ(x:String):=Fh x x
def YR(P:ak):List Obj:=[
 T0,F0,bB "<module>" 182 1 0 0 11 false 12 N N N 185 186,Fm [some (R 13),some (R 3),some (R 3),none,some (S "__main__" 164),none,some (R 0)],T0,F0,Tn ["k"] 190,T0,bJ "_wall" (st 0),bB "_wall" 187 1 1 3 15 true 16 (R 17) (R 18) (R 19) 191 192,bI "_wall" (st 0) N (S "__main__" 164) (R 20),T [Ty "Exception"],X "builtin_function_or_method" [Bi "type.__prepare__",Ty "type"],D P [("__module__",203,mn),("__qualname__",205,S "LispSignal" 204),("__firstlineno__",207,It 5 206),("__init__",216,R 35),("__static_attributes__",219,R 36)] 5,T0,F [I 7,I 4,R 34],bB "LispSignal" 198 5 0 0 25 false 26 N N N 201 202,Fm [some (R 27),some (R 3),some (R 24),none,some mn,none,some (R 0)],T0,F0,Tn ["self","symbol","data"] 211,T0,Fh "__init__" "LispSignal.__init__" (su 2 0),Co "__init__" "LispSignal.__init__" 208 7 3 3 29 true 30 (R 31) (R 32) (R 33) 214 215,Fn "__init__" "LispSignal.__init__" (su 2 0) N mn (R 34),Tn ["data","symbol"] 217,D P [("__module__",203,mn),("__firstlineno__",207,It 5 206),("__init__",216,R 35),("__static_attributes__",219,R 36),("__weakref__",221,R 39),("__doc__",222,N)] 3,Cl "LispSignal" "LispSignal" [Ty "Exception"] [R 38,Ty "Exception",Ty "BaseException",Ty "object"] 37 [] [some (R 22),none,some (S "LispSignal" 196),some (S "LispSignal" 204),some (Bi "Exception.__new__"),some (B true)],X "getset_descriptor" [S "__weakref__" 220,R 38,Bi "ExceptionGroup.__weakref__",N],X "super" [R 38,R 38,R 38],X "builtin_function_or_method" [Bi "object.__init_subclass__",R 38],T0]
def YS(P:ak):List Obj:=[
 F0,Tn ["one","other"] 232,T0,bJ "eq" (st 4),bB "eq" 229 11 2 3 42 true 43 (R 44) (R 45) (R 46) 234 235,bI "eq" (st 4) N mh (R 47),T0,F0,Tn ["plist","number","at"] 240,T0,bJ "plist_find" (st 5),bB "plist_find" 237 15 2 3 49 true 50 (R 51) (R 52) (R 53) 243 244,bI "plist_find" (st 5) N mh (R 54),T0,F0,Tn ["plist","number","at"] 249,T0,bJ "plist_get" (st 6),bB "plist_get" 246 20 2 3 56 true 57 (R 58) (R 59) (R 60) 252 253,bI "plist_get" (st 6) N mh (R 61),T0,F0,Tn ["plist","number","value","at"] 258,T0,bJ "plist_with" (st 7),bB "plist_with" 255 23 3 3 63 true 64 (R 65) (R 66) (R 67) 262 263,bI "plist_with" (st 7) N mh (R 68),T0,F0,bJ "plist_without" (st 8),bB "plist_without" 265 28 2 3 70 true 71 N N (R 72) 268 269,bI "plist_without" (st 8) N mh (R 73)]
def YT(P:ak):List Obj:=[
 T0,F0,Tn ["plist","number","value","at"] 274,T0,bJ "holds_pair" (st 9),bB "holds_pair" 271 30 3 3 75 true 76 (R 77) (R 78) (R 79) 278 279,bI "holds_pair" (st 9) N mh (R 80),T0,F0,Tn ["one","other","number","value"] 284,T0,bJ "same_plist" (st 10),bB "same_plist" 281 33 2 3 82 true 83 (R 84) (R 85) (R 86) 288 289,bI "same_plist" (st 10) N mh (R 87),T0,F0,bJ "plist_removed" (st 11),bB "plist_removed" 291 40 2 3 89 true 90 N N (R 91) 294 295,bI "plist_removed" (st 11) N mh (R 92),T0,F0,Tn ["one","other","found","number","value"] 300,T0,bJ "changed_properties" (st 12),bB "changed_properties" 297 42 2 3 94 true 95 (R 96) (R 97) (R 98) 305 306,bI "changed_properties" (st 12) N mh (R 99),T0,X "builtin_function_or_method" [Bi "type.__prepare__",Ty "type"],D P [("__module__",317,cC),("__qualname__",319,S "Interval" 318),("__firstlineno__",321,It 52 320),("__init__",330,R 114),("__static_attributes__",336,R 115)] 5,T0,F [I 54,I 4,R 113],bB "Interval" 312 52 0 0 104 false 105 N N N 315 316]
def YV(P:ak):List Obj:=[
 Fm [some (R 106),some (R 3),some (R 103),none,some cC,none,some (R 0)],T0,F0,Tn ["self","total","plist"] 325,T0,Fh "__init__" "Interval.__init__" (su 14 0),Co "__init__" "Interval.__init__" 322 54 3 3 108 true 109 (R 110) (R 111) (R 112) 328 329,Fn "__init__" "Interval.__init__" (su 14 0) N cC (R 113),Tn ["left","parent","plist","right","total"] 331,D P [("__module__",317,cC),("__firstlineno__",321,It 52 320),("__init__",330,R 114),("__static_attributes__",336,R 115),("__dict__",338,R 118),("__weakref__",340,R 119),("__doc__",341,N)] 4,Cl "Interval" "Interval" [Ty "object"] [R 117,Ty "object"] 116 [] [none,none,some (S "Interval" 310),some (S "Interval" 318),some (Bi "object.__new__"),some (B true)],X "getset_descriptor" [S "__dict__" 337,R 117,Bi "function.__dict__",Bi "function.__dict__#set"],X "getset_descriptor" [S "__weakref__" 339,R 117,Bi "ExceptionGroup.__weakref__",N],X "super" [R 117,R 117,R 117],X "builtin_function_or_method" [Bi "object.__init_subclass__",R 117],T0,X "builtin_function_or_method" [Bi "type.__prepare__",Ty "type"],D P [("__module__",351,cC),("__qualname__",353,S "IntervalTree" 352),("__firstlineno__",355,It 60 354),("__init__",364,R 135),("__static_attributes__",366,R 136)] 5,T0,F [I 62,I 4,R 134],bB "IntervalTree" 346 60 0 0 125 false 126 N N N 349 350,Fm [some (R 127),some (R 3),some (R 124),none,some cC,none,some (R 0)],T0,F0,Tn ["self","length","plist"] 359,T0,Fh "__init__" "IntervalTree.__init__" (su 15 0),Co "__init__" "IntervalTree.__init__" 356 62 3 3 129 true 130 (R 131) (R 132) (R 133) 362 363,Fn "__init__" "IntervalTree.__init__" (su 15 0) N cC (R 134),Tn ["root"] 365,D P [("__module__",351,cC),("__firstlineno__",355,It 60 354),("__init__",364,R 135),("__static_attributes__",366,R 136),("__dict__",368,R 139),("__weakref__",370,R 140),("__doc__",371,N)] 4,Cl "IntervalTree" "IntervalTree" [Ty "object"] [R 138,Ty "object"] 137 [] [none,none,some (S "IntervalTree" 344),some (S "IntervalTree" 352),some (Bi "object.__new__"),some (B true)]]
def YW(P:ak):List Obj:=[
 X "getset_descriptor" [S "__dict__" 367,R 138,Bi "function.__dict__",Bi "function.__dict__#set"],X "getset_descriptor" [S "__weakref__" 369,R 138,Bi "ExceptionGroup.__weakref__",N],X "super" [R 138,R 138,R 138],X "builtin_function_or_method" [Bi "object.__init_subclass__",R 138],T0,F0,Tn ["node"] 377,T0,bJ "total_of" (st 16),bB "total_of" 374 64 1 3 143 true 144 (R 145) (R 146) (R 147) 378 379,bI "total_of" (st 16) N cC (R 148),T0,F0,Tn ["node"] 384,T0,bJ "own_length" (st 17),bB "own_length" 381 66 1 3 150 true 151 (R 152) (R 153) (R 154) 385 386,bI "own_length" (st 17) N cC (R 155),T0,F0,Tn ["tree"] 391,T0,bJ "text_length" (st 18),bB "text_length" 388 68 1 3 157 true 158 (R 159) (R 160) (R 161) 392 393,bI "text_length" (st 18) N cC (R 162),T0,F0,Tn ["tree","node","other","parent"] 398,T0,bJ "put_in_stead" (st 19),bB "put_in_stead" 395 70 3 3 164 true 165 (R 166) (R 167) (R 168) 402 403,bI "put_in_stead" (st 19) N cC (R 169)]
def YX(P:ak):List Obj:=[
 T0,F0,Tn ["node","son"] 408,T0,bJ "set_left" (st 20),bB "set_left" 405 80 2 3 171 true 172 (R 173) (R 174) (R 175) 410 411,bI "set_left" (st 20) N cC (R 176),T0,F0,Tn ["node","son"] 416,T0,bJ "set_right" (st 21),bB "set_right" 413 84 2 3 178 true 179 (R 180) (R 181) (R 182) 418 419,bI "set_right" (st 21) N cC (R 183),T0,F0,Tn ["tree","node","son","total"] 424,T0,bJ "rotate_right" (st 22),bB "rotate_right" 421 88 2 3 185 true 186 (R 187) (R 188) (R 189) 428 429,bI "rotate_right" (st 22) N cC (R 190),T0,F0,Tn ["tree","node","son","total"] 434,T0,bJ "rotate_left" (st 23),bB "rotate_left" 431 97 2 3 192 true 193 (R 194) (R 195) (R 196) 438 439,bI "rotate_left" (st 23) N cC (R 197),T0,F0,Tn ["node","son","difference"] 444,T0]
def YY(P:ak):List Obj:=[
 bJ "right_turn_helps" (st 24),bB "right_turn_helps" 441 106 1 3 199 true 200 (R 201) (R 202) (R 203) 447 448,bI "right_turn_helps" (st 24) N cC (R 204),T0,F0,Tn ["node","son","difference"] 453,T0,bJ "left_turn_helps" (st 25),bB "left_turn_helps" 450 112 1 3 206 true 207 (R 208) (R 209) (R 210) 456 457,bI "left_turn_helps" (st 25) N cC (R 211),T0,F0,Tn ["tree","node","waiting","top","here","son"] 462,T0,bJ "settle" (st 26),bB "settle" 459 118 2 3 213 true 214 (R 215) (R 216) (R 217) 468 469,bI "settle" (st 26) N cC (R 218),T0,F0,Tn ["tree","node"] 474,T0,bJ "settle_up" (st 27),bB "settle_up" 471 132 2 3 220 true 221 (R 222) (R 223) (R 224) 476 477,bI "settle_up" (st 27) N cC (R 225),T0,F0,Tn ["node","many"] 482,T0,bJ "add_above" (st 28),bB "add_above" 479 135 2 3 227 true 228 (R 229) (R 230) (R 231) 484 485,bI "add_above" (st 28) N cC (R 232),T0]
def YZ(P:ak):List Obj:=[
 F0,Tn ["tree","at","node","begin","ahead","own"] 490,T0,bJ "find_interval" (st 29),bB "find_interval" 487 139 2 3 234 true 235 (R 236) (R 237) (R 238) 496 497,bI "find_interval" (st 29) N cC (R 239),T0,F0,Tn ["node"] 502,T0,bJ "leftmost" (st 30),bB "leftmost" 499 152 1 3 241 true 242 (R 243) (R 244) (R 245) 503 504,bI "leftmost" (st 30) N cC (R 246),T0,F0,Tn ["node"] 509,T0,bJ "rightmost" (st 31),bB "rightmost" 506 156 1 3 248 true 249 (R 250) (R 251) (R 252) 510 511,bI "rightmost" (st 31) N cC (R 253),T0,F0,Tn ["node"] 516,T0,bJ "following" (st 32),bB "following" 513 160 1 3 255 true 256 (R 257) (R 258) (R 259) 517 518,bI "following" (st 32) N cC (R 260),T0,F0,Tn ["node"] 523,T0,bJ "preceding" (st 33)]
def Y8(P:ak):List Obj:=[
 bB "preceding" 520 166 1 3 262 true 263 (R 264) (R 265) (R 266) 524 525,bI "preceding" (st 33) N cC (R 267),T0,F0,Tn ["tree","node","fresh"] 530,T0,bJ "put_behind" (st 34),bB "put_behind" 527 172 3 3 269 true 270 (R 271) (R 272) (R 273) 533 534,bI "put_behind" (st 34) N cC (R 274),T0,F0,Tn ["tree","node","fresh","before"] 539,T0,bJ "put_ahead" (st 35),bB "put_ahead" 536 180 3 3 276 true 277 (R 278) (R 279) (R 280) 543 544,bI "put_ahead" (st 35) N cC (R 281),T0,F0,Tn ["tree","at","node","begin","rest"] 549,T0,bJ "split_at" (st 36),bB "split_at" 546 188 2 3 283 true 284 (R 285) (R 286) (R 287) 554 555,bI "split_at" (st 36) N cC (R 288),T0,F0,Tn ["tree","node","above","son","moved","here"] 560,T0,bJ "drop_interval" (st 37),bB "drop_interval" 557 197 2 3 290 true 291 (R 292) (R 293) (R 294) 566 567,bI "drop_interval" (st 37) N cC (R 295),T0,F0]
def Za(P:ak):List Obj:=[
 Tn ["tree","at","many","plist","fresh"] 572,T0,bJ "insert_interval" (st 38),bB "insert_interval" 569 213 4 3 297 true 298 (R 299) (R 300) (R 301) 577 578,bI "insert_interval" (st 38) N cC (R 302),T0,F0,Tn ["tree","begin","end","left","node"] 583,T0,bJ "delete_range" (st 39),bB "delete_range" 580 225 3 3 304 true 305 (R 306) (R 307) (R 308) 588 589,bI "delete_range" (st 39) N cC (R 309),T0,X "builtin_function_or_method" [Bi "type.__prepare__",Ty "type"],D P [("__module__",600,fM),("__qualname__",602,S "TextProps" 601),("__firstlineno__",604,It 236 603),("__init__",612,R 324),("inserted",622,R 331),("deleted",631,R 338),("text_came",640,R 345),("text_gone",649,R 352),("rows_between",658,R 359),("put_rows",666,R 366),("__static_attributes__",668,R 367)] 11,T0,F [I 238,I 4,R 323,I 241,I 4,R 330,I 244,I 4,R 337,I 247,I 4,R 344,I 250,I 4,R 351,I 253,I 4,R 358,I 256,I 4,R 365],bB "TextProps" 595 236 0 0 314 false 315 N N N 598 599,Fm [some (R 316),some (R 3),some (R 313),none,some fM,none,some (R 0)],T0,F0,Tn ["self","length"] 608,T0,Fh "__init__" "TextProps.__init__" (su 41 0),Co "__init__" "TextProps.__init__" 605 238 2 3 318 true 319 (R 320) (R 321) (R 322) 610 611,Fn "__init__" "TextProps.__init__" (su 41 0) N fM (R 323),T0,F0,Tn ["self","at","many","plist"] 616,T0,Fh "inserted" "TextProps.inserted" (su 41 1),Co "inserted" "TextProps.inserted" 613 241 4 3 325 true 326 (R 327) (R 328) (R 329) 620 621]
def Zb(P:ak):List Obj:=[
 Fn "inserted" "TextProps.inserted" (su 41 1) N fM (R 330),T0,F0,Tn ["self","begin","end"] 626,T0,Fh "deleted" "TextProps.deleted" (su 41 2),Co "deleted" "TextProps.deleted" 623 244 3 3 332 true 333 (R 334) (R 335) (R 336) 629 630,Fn "deleted" "TextProps.deleted" (su 41 2) N fM (R 337),T0,F0,Tn ["self","at","many"] 635,T0,Fh "text_came" "TextProps.text_came" (su 41 3),Co "text_came" "TextProps.text_came" 632 247 3 3 339 true 340 (R 341) (R 342) (R 343) 638 639,Fn "text_came" "TextProps.text_came" (su 41 3) N fM (R 344),T0,F0,Tn ["self","at","end"] 644,T0,Fh "text_gone" "TextProps.text_gone" (su 41 4),Co "text_gone" "TextProps.text_gone" 641 250 3 3 346 true 347 (R 348) (R 349) (R 350) 647 648,Fn "text_gone" "TextProps.text_gone" (su 41 4) N fM (R 351),T0,F0,Tn ["self","begin","end"] 653,T0,Fh "rows_between" "TextProps.rows_between" (su 41 5),Co "rows_between" "TextProps.rows_between" 650 253 3 3 353 true 354 (R 355) (R 356) (R 357) 656 657,Fn "rows_between" "TextProps.rows_between" (su 41 5) N fM (R 358),T0,F0,Tn ["self","rows"] 662]
def Zc(P:ak):List Obj:=[
 T0,Fh "put_rows" "TextProps.put_rows" (su 41 6),Co "put_rows" "TextProps.put_rows" 659 256 2 3 360 true 361 (R 362) (R 363) (R 364) 664 665,Fn "put_rows" "TextProps.put_rows" (su 41 6) N fM (R 365),Tn ["tree"] 667,D P [("__module__",600,fM),("__firstlineno__",604,It 236 603),("__init__",612,R 324),("inserted",622,R 331),("deleted",631,R 338),("text_came",640,R 345),("text_gone",649,R 352),("rows_between",658,R 359),("put_rows",666,R 366),("__static_attributes__",668,R 367),("__dict__",670,R 370),("__weakref__",672,R 371),("__doc__",673,N)] 4,Cl "TextProps" "TextProps" [Ty "object"] [R 369,Ty "object"] 368 [] [none,none,some (S "TextProps" 593),some (S "TextProps" 601),some (Bi "object.__new__"),some (B true)],X "getset_descriptor" [S "__dict__" 669,R 369,Bi "function.__dict__",Bi "function.__dict__#set"],X "getset_descriptor" [S "__weakref__" 671,R 369,Bi "ExceptionGroup.__weakref__",N],X "super" [R 369,R 369,R 369],X "builtin_function_or_method" [Bi "object.__init_subclass__",R 369],T0,F0,Tn ["props","at"] 679,T0,bJ "properties_at" (st 42),bB "properties_at" 676 258 2 3 374 true 375 (R 376) (R 377) (R 378) 681 682,bI "properties_at" (st 42) N fM (R 379),T0,F0,Tn ["props","begin","end","node","found","left"] 687,T0,bJ "range_nodes" (st 43),bB "range_nodes" 684 262 3 3 381 true 382 (R 383) (R 384) (R 385) 693 694,bI "range_nodes" (st 43) N fM (R 386),T0,F0,Tn ["props","at","node","begin","ahead","many"] 699,T0,bJ "join_at" (st 44),bB "join_at" 696 275 2 3 388 true 389 (R 390) (R 391) (R 392) 705 706,bI "join_at" (st 44) N fM (R 393)]
def Zd(P:ak):List Obj:=[
 T0,F0,Tn ["props","begin","end","at","node","first","last"] 711,T0,bJ "join_range" (st 45),bB "join_range" 708 287 3 3 395 true 396 (R 397) (R 398) (R 399) 718 719,bI "join_range" (st 45) N fM (R 400),T0,F0,Tn ["props","begin","end","plist","changed","node"] 724,T0,bJ "set_properties" (st 46),bB "set_properties" 721 295 4 3 402 true 403 (R 404) (R 405) (R 406) 730 731,bI "set_properties" (st 46) N fM (R 407),T0,F0,Tn ["props","begin","end","found","node","first","last"] 736,T0,bJ "rows_between" (st 47),bB "rows_between" 733 303 3 3 409 true 410 (R 411) (R 412) (R 413) 743 744,bI "rows_between" (st 47) N fM (R 414),T0,F0,Tn ["props","rows","changed","begin","end","plist"] 750,T0,bJ "put_rows" (st 49),bB "put_rows" 747 315 2 3 416 true 417 (R 418) (R 419) (R 420) 756 757,bI "put_rows" (st 49) N fM (R 421),T0,F0,Tn ["props","at","many","plist"] 763,T0]
def Ze(P:ak):List Obj:=[
 bJ "text_inserted" (st 51),bB "text_inserted" 760 322 4 3 423 true 424 (R 425) (R 426) (R 427) 767 768,bI "text_inserted" (st 51) N fM (R 428),T0,F0,Tn ["props","begin","end"] 773,T0,bJ "text_deleted" (st 52),bB "text_deleted" 770 326 3 3 430 true 431 (R 432) (R 433) (R 434) 776 777,bI "text_deleted" (st 52) N fM (R 435),T0,F0,Tn ["buffer","start","end","low","high"] 784,T0,bJ "need_range" (st 54),bB "need_range" 781 330 3 3 437 true 438 (R 439) (R 440) (R 441) 789 790,bI "need_range" (st 54) N mj (R 442),T0,F0,Tn ["buffer","begin","end","old","new","number"] 795,T0,bJ "told_undo" (st 55),bB "told_undo" 792 335 5 3 444 true 445 (R 446) (R 447) (R 448) 801 802,bI "told_undo" (st 55) N mj (R 449),T0,F0,Tn ["buffer"] 807,T0,bJ "need_writable_props" (st 56),bB "need_writable_props" 804 340 1 3 451 true 452 (R 453) (R 454) (R 455) 808 809,bI "need_writable_props" (st 56) N mj (R 456),T0]
def Zf(P:ak):List Obj:=[
 F0,bJ "turn_rows" (st 57),bB "turn_rows" 811 343 4 3 458 true 459 N N (R 460) 814 815,bI "turn_rows" (st 57) N mj (R 461),T0,F0,Tn ["buffer","start","end","number","value"] 820,Tn ["number","value"] 825,bJ "put" (st 58),bB "put" 817 362 5 3 463 true 464 (R 465) (R 466) (R 467) 827 828,bI "put" (st 58) N mj (R 468),T0,F0,Tn ["buffer","start","end","plist"] 833,Tn ["plist"] 837,bJ "put_all" (st 59),bB "put_all" 830 364 4 3 470 true 471 (R 472) (R 473) (R 474) 838 839,bI "put_all" (st 59) N mj (R 475),T0,F0,Tn ["buffer","start","end","numbers"] 844,Tn ["numbers"] 848,bJ "remove" (st 60),bB "remove" 841 368 4 3 477 true 478 (R 479) (R 480) (R 481) 849 850,bI "remove" (st 60) N mj (R 482),T0,X "builtin_function_or_method" [Bi "type.__prepare__",Ty "type"],D P [("__module__",861,kR),("__qualname__",863,S "GapText" 862),("__firstlineno__",865,It 371 864),("__init__",874,R 497),("size",881,R 504),("code",889,R 511),("codes",899,R 518),("move_gap",908,R 525),("widen_gap",917,R 532),("insert",926,R 539),("delete",936,R 546),("put",945,R 553),("narrow_gap",952,R 560),("is_whole",959,R 567),("__static_attributes__",964,R 568)] 15,T0,F [I 373,I 4,R 496,I 379,I 4,R 503,I 382,I 4,R 510,I 387,I 4,R 517,I 395,I 4,R 524,I 406,I 4,R 531,I 412,I 4,R 538,I 418,I 4,R 545,I 428,I 4,R 552,I 431,I 4,R 559,I 434,I 4,R 566],bB "GapText" 856 371 0 0 487 false 488 N N N 859 860,Fm [some (R 489),some (R 3),some (R 486),none,some kR,none,some (R 0)]]
def Zg(P:ak):List Obj:=[
 T0,F0,Tn ["self","codes","room"] 869,T0,Fh "__init__" "GapText.__init__" (su 62 0),Co "__init__" "GapText.__init__" 866 373 3 3 491 true 492 (R 493) (R 494) (R 495) 872 873,Fn "__init__" "GapText.__init__" (su 62 0) N kR (R 496),T0,F0,Tn ["self"] 878,T0,Fh "size" "GapText.size" (su 62 1),Co "size" "GapText.size" 875 379 1 3 498 true 499 (R 500) (R 501) (R 502) 879 880,Fn "size" "GapText.size" (su 62 1) N kR (R 503),T0,F0,Tn ["self","at"] 885,T0,Fh "code" "GapText.code" (su 62 2),Co "code" "GapText.code" 882 382 2 3 505 true 506 (R 507) (R 508) (R 509) 887 888,Fn "code" "GapText.code" (su 62 2) N kR (R 510),T0,F0,Tn ["self","start","end","shift"] 893,T0,Fh "codes" "GapText.codes" (su 62 3),Co "codes" "GapText.codes" 890 387 3 3 512 true 513 (R 514) (R 515) (R 516) 897 898,Fn "codes" "GapText.codes" (su 62 3) N kR (R 517),T0,F0,Tn ["self","at","moved"] 903,T0]
def Zh(P:ak):List Obj:=[
 Fh "move_gap" "GapText.move_gap" (su 62 4),Co "move_gap" "GapText.move_gap" 900 395 2 3 519 true 520 (R 521) (R 522) (R 523) 906 907,Fn "move_gap" "GapText.move_gap" (su 62 4) N kR (R 524),T0,F0,Tn ["self","wanted","lack"] 912,T0,Fh "widen_gap" "GapText.widen_gap" (su 62 5),Co "widen_gap" "GapText.widen_gap" 909 406 2 3 526 true 527 (R 528) (R 529) (R 530) 915 916,Fn "widen_gap" "GapText.widen_gap" (su 62 5) N kR (R 531),T0,F0,Tn ["self","at","codes"] 921,T0,Fh "insert" "GapText.insert" (su 62 6),Co "insert" "GapText.insert" 918 412 3 3 533 true 534 (R 535) (R 536) (R 537) 924 925,Fn "insert" "GapText.insert" (su 62 6) N kR (R 538),T0,F0,Tn ["self","start","end","gone"] 930,T0,Fh "delete" "GapText.delete" (su 62 7),Co "delete" "GapText.delete" 927 418 3 3 540 true 541 (R 542) (R 543) (R 544) 934 935,Fn "delete" "GapText.delete" (su 62 7) N kR (R 545),T0,F0,Tn ["self","at","code"] 940,T0,Fh "put" "GapText.put" (su 62 8),Co "put" "GapText.put" 937 428 3 3 547 true 548 (R 549) (R 550) (R 551) 943 944,Fn "put" "GapText.put" (su 62 8) N kR (R 552),T0]
def Zi(P:ak):List Obj:=[
 F0,Tn ["self"] 949,T0,Fh "narrow_gap" "GapText.narrow_gap" (su 62 9),Co "narrow_gap" "GapText.narrow_gap" 946 431 1 3 554 true 555 (R 556) (R 557) (R 558) 950 951,Fn "narrow_gap" "GapText.narrow_gap" (su 62 9) N kR (R 559),T0,F0,Tn ["self"] 956,T0,Fh "is_whole" "GapText.is_whole" (su 62 10),Co "is_whole" "GapText.is_whole" 953 434 1 3 561 true 562 (R 563) (R 564) (R 565) 957 958,Fn "is_whole" "GapText.is_whole" (su 62 10) N kR (R 566),Tn ["cells","gap_end","gap_start","room"] 960,D P [("__module__",861,kR),("__firstlineno__",865,It 371 864),("__init__",874,R 497),("size",881,R 504),("code",889,R 511),("codes",899,R 518),("move_gap",908,R 525),("widen_gap",917,R 532),("insert",926,R 539),("delete",936,R 546),("put",945,R 553),("narrow_gap",952,R 560),("is_whole",959,R 567),("__static_attributes__",964,R 568),("__dict__",966,R 571),("__weakref__",968,R 572),("__doc__",969,N)] 4,Cl "GapText" "GapText" [Ty "object"] [R 570,Ty "object"] 569 [] [none,none,some (S "GapText" 854),some (S "GapText" 862),some (Bi "object.__new__"),some (B true)],X "getset_descriptor" [S "__dict__" 965,R 570,Bi "function.__dict__",Bi "function.__dict__#set"],X "getset_descriptor" [S "__weakref__" 967,R 570,Bi "ExceptionGroup.__weakref__",N],X "super" [R 570,R 570,R 570],X "builtin_function_or_method" [Bi "object.__init_subclass__",R 570],T0,X "builtin_function_or_method" [Bi "type.__prepare__",Ty "type"],D P [("__module__",981,mi),("__qualname__",983,S "Markers" 982),("__firstlineno__",985,It 437 984),("__init__",992,R 588),("numbers",999,R 595),("put",1008,R 602),("drop",1016,R 609),("within",1027,R 616),("inserted",1039,R 623),("deleted",1050,R 630),("replaced",1060,R 637),("__static_attributes__",1062,R 638)] 12,T0,F [I 439,I 4,R 587,I 442,I 4,R 594,I 445,I 4,R 601,I 449,I 4,R 608,I 452,I 4,R 615,I 459,I 4,R 622,I 465,I 4,R 629,I 473,I 4,R 636],bB "Markers" 976 437 0 0 578 false 579 N N N 979 980,Fm [some (R 580),some (R 3),some (R 577),none,some mi,none,some (R 0)],
 T0,F0,Tn ["self"] 989,T0,Fh "__init__" "Markers.__init__" (su 64 0)]
def Zj(P:ak):List Obj:=[
 Co "__init__" "Markers.__init__" 986 439 1 3 582 true 583 (R 584) (R 585) (R 586) 990 991,Fn "__init__" "Markers.__init__" (su 64 0) N mi (R 587),T0,F0,Tn ["self"] 996,T0,Fh "numbers" "Markers.numbers" (su 64 1),Co "numbers" "Markers.numbers" 993 442 1 3 589 true 590 (R 591) (R 592) (R 593) 997 998,Fn "numbers" "Markers.numbers" (su 64 1) N mi (R 594),T0,F0,Tn ["self","marker","position"] 1003,T0,Fh "put" "Markers.put" (su 64 2),Co "put" "Markers.put" 1000 445 3 3 596 true 597 (R 598) (R 599) (R 600) 1006 1007,Fn "put" "Markers.put" (su 64 2) N mi (R 601),T0,F0,Tn ["self","marker"] 1012,T0,Fh "drop" "Markers.drop" (su 64 3),Co "drop" "Markers.drop" 1009 449 2 3 603 true 604 (R 605) (R 606) (R 607) 1014 1015,Fn "drop" "Markers.drop" (su 64 3) N mi (R 608),T0,F0,Tn ["self","start","end","found","number"] 1020,T0,Fh "within" "Markers.within" (su 64 4),Co "within" "Markers.within" 1017 452 3 3 610 true 611 (R 612) (R 613) (R 614) 1025 1026,Fn "within" "Markers.within" (su 64 4) N mi (R 615),T0,F0]
def Zk(P:ak):List Obj:=[
 Tn ["self","start","end","is_before","number","marker"] 1031,T0,Fh "inserted" "Markers.inserted" (su 64 5),Co "inserted" "Markers.inserted" 1028 459 4 3 617 true 618 (R 619) (R 620) (R 621) 1037 1038,Fn "inserted" "Markers.inserted" (su 64 5) N mi (R 622),T0,F0,Tn ["self","start","end","number","marker"] 1043,T0,Fh "deleted" "Markers.deleted" (su 64 6),Co "deleted" "Markers.deleted" 1040 465 3 3 624 true 625 (R 626) (R 627) (R 628) 1048 1049,Fn "deleted" "Markers.deleted" (su 64 6) N mi (R 629),T0,F0,Tn ["self","start","end","many"] 1054,T0,Fh "replaced" "Markers.replaced" (su 64 7),Co "replaced" "Markers.replaced" 1051 473 4 3 631 true 632 (R 633) (R 634) (R 635) 1058 1059,Fn "replaced" "Markers.replaced" (su 64 7) N mi (R 636),Tn ["rows"] 1061,D P [("__module__",981,mi),("__firstlineno__",985,It 437 984),("__init__",992,R 588),("numbers",999,R 595),("put",1008,R 602),("drop",1016,R 609),("within",1027,R 616),("inserted",1039,R 623),("deleted",1050,R 630),("replaced",1060,R 637),("__static_attributes__",1062,R 638),("__dict__",1064,R 641),("__weakref__",1066,R 642),("__doc__",1067,N)] 4,Cl "Markers" "Markers" [Ty "object"] [R 640,Ty "object"] 639 [] [none,none,some (S "Markers" 974),some (S "Markers" 982),some (Bi "object.__new__"),some (B true)],X "getset_descriptor" [S "__dict__" 1063,R 640,Bi "function.__dict__",Bi "function.__dict__#set"],X "getset_descriptor" [S "__weakref__" 1065,R 640,Bi "ExceptionGroup.__weakref__",N],X "super" [R 640,R 640,R 640],X "builtin_function_or_method" [Bi "object.__init_subclass__",R 640],T0,X "builtin_function_or_method" [Bi "type.__prepare__",Ty "type"],D P [("__module__",1079,DC),("__qualname__",1081,S "Opaque" 1080),("__firstlineno__",1083,It 476 1082),("shown",1090,R 658),("kind",1097,R 665),("same_as",1105,R 672),("__static_attributes__",1106,R 673)] 7,T0,F [I 478,I 4,R 657,I 481,I 4,R 664,I 484,I 4,R 671],bB "Opaque" 1074 476 0 0 648 false 649 N N N 1077 1078]
def Zm(P:ak):List Obj:=[
 Fm [some (R 650),some (R 3),some (R 647),none,some DC,none,some (R 0)],T0,F0,Tn ["self"] 1087,T0,Fh "shown" "Opaque.shown" (su 66 0),Co "shown" "Opaque.shown" 1084 478 1 3 652 true 653 (R 654) (R 655) (R 656) 1088 1089,Fn "shown" "Opaque.shown" (su 66 0) N DC (R 657),T0,F0,Tn ["self"] 1094,T0,Fh "kind" "Opaque.kind" (su 66 1),Co "kind" "Opaque.kind" 1091 481 1 3 659 true 660 (R 661) (R 662) (R 663) 1095 1096,Fn "kind" "Opaque.kind" (su 66 1) N DC (R 664),T0,F0,Tn ["self","other"] 1101,T0,Fh "same_as" "Opaque.same_as" (su 66 2),Co "same_as" "Opaque.same_as" 1098 484 2 3 666 true 667 (R 668) (R 669) (R 670) 1103 1104,Fn "same_as" "Opaque.same_as" (su 66 2) N DC (R 671),T0,D P [("__module__",1079,DC),("__firstlineno__",1083,It 476 1082),("shown",1090,R 658),("kind",1097,R 665),("same_as",1105,R 672),("__static_attributes__",1106,R 673),("__dict__",1108,R 676),("__weakref__",1110,R 677),("__doc__",1111,N)] 4,Cl "Opaque" "Opaque" [Ty "object"] [R 675,Ty "object"] 674 [R 781] [none,none,some (S "Opaque" 1072),some (S "Opaque" 1080),some (Bi "object.__new__"),some (B true)],X "getset_descriptor" [S "__dict__" 1107,R 675,Bi "function.__dict__",Bi "function.__dict__#set"],X "getset_descriptor" [S "__weakref__" 1109,R 675,Bi "ExceptionGroup.__weakref__",N],X "super" [R 675,R 675,R 675],X "builtin_function_or_method" [Bi "object.__init_subclass__",R 675],T [R 675],X "builtin_function_or_method" [Bi "type.__prepare__",Ty "type"],D P [("__module__",1123,jn),("__qualname__",1125,S "Buffer" 1124),("__firstlineno__",1127,It 487 1126),("__init__",1138,R 694),("shown",1145,R 701),("kind",1152,R 708),("begin",1159,R 715),("end",1166,R 722),("size",1173,R 729),("code_at",1181,R 736),("codes",1190,R 743),("goto",1198,R 750),("tick",1205,R 757),("is_modified",1212,R 764),("set_modified",1220,R 771),("touch",1228,R 778),("__static_attributes__",1249,R 779)] 17]
def Zn(P:ak):List Obj:=[
 T0,F [I 489,I 4,R 693,I 511,I 4,R 700,I 514,I 4,R 707,I 517,I 4,R 714,I 520,I 4,R 721,I 523,I 4,R 728,I 526,I 4,R 735,I 529,I 4,R 742,I 532,I 4,R 749,I 536,I 4,R 756,I 539,I 4,R 763,I 542,I 4,R 770,I 548,I 4,R 777],bB "Buffer" 1118 487 0 0 683 false 684 N N N 1121 1122,Fm [some (R 685),some (R 3),some (R 682),none,some jn,none,some (R 0)],T [It 8 1128],T0,F0,Tn ["self","number","name","room"] 1132,T0,Fh "__init__" "Buffer.__init__" (su 68 0),Co "__init__" "Buffer.__init__" 1129 489 4 3 688 true 689 (R 690) (R 691) (R 692) 1136 1137,Fn "__init__" "Buffer.__init__" (su 68 0) (R 687) jn (R 693),T0,F0,Tn ["self"] 1142,T0,Fh "shown" "Buffer.shown" (su 68 1),Co "shown" "Buffer.shown" 1139 511 1 3 695 true 696 (R 697) (R 698) (R 699) 1143 1144,Fn "shown" "Buffer.shown" (su 68 1) N jn (R 700),T0,F0,Tn ["self"] 1149,T0,Fh "kind" "Buffer.kind" (su 68 2),Co "kind" "Buffer.kind" 1146 514 1 3 702 true 703 (R 704) (R 705) (R 706) 1150 1151,Fn "kind" "Buffer.kind" (su 68 2) N jn (R 707),T0,F0,Tn ["self"] 1156,T0,Fh "begin" "Buffer.begin" (su 68 3),Co "begin" "Buffer.begin" 1153 517 1 3 709 true 710 (R 711) (R 712) (R 713) 1157 1158]
def Zo(P:ak):List Obj:=[
 Fn "begin" "Buffer.begin" (su 68 3) N jn (R 714),T0,F0,Tn ["self"] 1163,T0,Fh "end" "Buffer.end" (su 68 4),Co "end" "Buffer.end" 1160 520 1 3 716 true 717 (R 718) (R 719) (R 720) 1164 1165,Fn "end" "Buffer.end" (su 68 4) N jn (R 721),T0,F0,Tn ["self"] 1170,T0,Fh "size" "Buffer.size" (su 68 5),Co "size" "Buffer.size" 1167 523 1 3 723 true 724 (R 725) (R 726) (R 727) 1171 1172,Fn "size" "Buffer.size" (su 68 5) N jn (R 728),T0,F0,Tn ["self","place"] 1177,T0,Fh "code_at" "Buffer.code_at" (su 68 6),Co "code_at" "Buffer.code_at" 1174 526 2 3 730 true 731 (R 732) (R 733) (R 734) 1179 1180,Fn "code_at" "Buffer.code_at" (su 68 6) N jn (R 735),T0,F0,Tn ["self","start","end"] 1185,T0,Fh "codes" "Buffer.codes" (su 68 7),Co "codes" "Buffer.codes" 1182 529 3 3 737 true 738 (R 739) (R 740) (R 741) 1188 1189,Fn "codes" "Buffer.codes" (su 68 7) N jn (R 742),T0,F0,Tn ["self","place"] 1194]
def Zq(P:ak):List Obj:=[
 T0,Fh "goto" "Buffer.goto" (su 68 8),Co "goto" "Buffer.goto" 1191 532 2 3 744 true 745 (R 746) (R 747) (R 748) 1196 1197,Fn "goto" "Buffer.goto" (su 68 8) N jn (R 749),T0,F0,Tn ["self"] 1202,T0,Fh "tick" "Buffer.tick" (su 68 9),Co "tick" "Buffer.tick" 1199 536 1 3 751 true 752 (R 753) (R 754) (R 755) 1203 1204,Fn "tick" "Buffer.tick" (su 68 9) N jn (R 756),T0,F0,Tn ["self"] 1209,T0,Fh "is_modified" "Buffer.is_modified" (su 68 10),Co "is_modified" "Buffer.is_modified" 1206 539 1 3 758 true 759 (R 760) (R 761) (R 762) 1210 1211,Fn "is_modified" "Buffer.is_modified" (su 68 10) N jn (R 763),T0,F0,Tn ["self","is_so"] 1216,T0,Fh "set_modified" "Buffer.set_modified" (su 68 11),Co "set_modified" "Buffer.set_modified" 1213 542 2 3 765 true 766 (R 767) (R 768) (R 769) 1218 1219,Fn "set_modified" "Buffer.set_modified" (su 68 11) N jn (R 770),T0,F0,Tn ["self","are_codes"] 1224,T0,Fh "touch" "Buffer.touch" (su 68 12),Co "touch" "Buffer.touch" 1221 548 2 3 772 true 773 (R 774) (R 775) (R 776) 1226 1227,Fn "touch" "Buffer.touch" (su 68 12) N jn (R 777)]
def Zr(P:ak):List Obj:=[
 Tn ["begv","codes_ticks","file","is_live","is_read_only","listeners","locals","mark","markers","name","number","overlays","point","props","saved_ticks","syntax","text","ticks","undo","zv"] 1229,D P [("__module__",1123,jn),("__firstlineno__",1127,It 487 1126),("__init__",1138,R 694),("shown",1145,R 701),("kind",1152,R 708),("begin",1159,R 715),("end",1166,R 722),("size",1173,R 729),("code_at",1181,R 736),("codes",1190,R 743),("goto",1198,R 750),("tick",1205,R 757),("is_modified",1212,R 764),("set_modified",1220,R 771),("touch",1228,R 778),("__static_attributes__",1249,R 779),("__doc__",1250,N)] 2,Cl "Buffer" "Buffer" [R 675] [R 781,R 675,Ty "object"] 780 [] [some (R 680),none,some (S "Buffer" 1116),some (S "Buffer" 1124),some (Bi "object.__new__"),some (B true)],X "super" [R 781,R 781,R 781],X "builtin_function_or_method" [Bi "object.__init_subclass__",R 781],T0,F0,Tn ["buffer"] 1258,T0,bJ "need_writable" (st 70),bB "need_writable" 1255 553 1 3 784 true 785 (R 786) (R 787) (R 788) 1259 1260,bI "need_writable" (st 70) N kU (R 789),T0,F0,Tn ["buffer","start","end","low","high"] 1265,T0,bJ "reached" (st 71),bB "reached" 1262 556 3 3 791 true 792 (R 793) (R 794) (R 795) 1270 1271,bI "reached" (st 71) N kU (R 796),T0,F0,Tn ["buffer","start","end","listener"] 1276,T0,bJ "tell_ahead" (st 72),bB "tell_ahead" 1273 561 3 3 798 true 799 (R 800) (R 801) (R 802) 1280 1281,bI "tell_ahead" (st 72) N kU (R 803),T0,F0,Tn ["buffer","start","end","old_length","listener"] 1286,T0,bJ "tell_behind" (st 73),bB "tell_behind" 1283 564 4 3 805 true 806 (R 807) (R 808) (R 809) 1291 1292]
def Zt(P:ak):List Obj:=[
 bI "tell_behind" (st 73) N kU (R 810),T0,F0,Tn ["buffer","start","end","gone"] 1297,T0,bJ "text_out" (st 74),bB "text_out" 1294 568 3 3 812 true 813 (R 814) (R 815) (R 816) 1301 1302,bI "text_out" (st 74) N kU (R 817),T0,F0,Tn ["buffer","place","codes"] 1307,T0,bJ "text_in" (st 75),bB "text_in" 1304 576 3 3 819 true 820 (R 821) (R 822) (R 823) 1310 1311,bI "text_in" (st 75) N kU (R 824),T0,F0,Tn ["buffer","start","end"] 1316,T0,bJ "hung_out" (st 76),bB "hung_out" 1313 583 3 3 826 true 827 (R 828) (R 829) (R 830) 1319 1320,bI "hung_out" (st 76) N kU (R 831),T0,F0,Tn ["buffer","place","many","before_markers"] 1325,T0,bJ "hung_in" (st 77),bB "hung_in" 1322 588 4 3 833 true 834 (R 835) (R 836) (R 837) 1329 1330,bI "hung_in" (st 77) N kU (R 838),T0,F0,Tn ["buffer","place","codes","before_markers","is_point_behind"] 1335]
def Zu(P:ak):List Obj:=[
 T0,bJ "put_in" (st 78),bB "put_in" 1332 593 5 3 840 true 841 (R 842) (R 843) (R 844) 1340 1341,bI "put_in" (st 78) N kU (R 845),T [B false],T0,F0,Tn ["buffer","codes","before_markers"] 1346,T0,bJ "insert" (st 79),bB "insert" 1343 605 3 3 848 true 849 (R 850) (R 851) (R 852) 1349 1350,bI "insert" (st 79) (R 847) kU (R 853),T0,F0,Tn ["buffer","start","end","low","high","gone"] 1355,T0,bJ "delete" (st 80),bB "delete" 1352 607 3 3 855 true 856 (R 857) (R 858) (R 859) 1361 1362,bI "delete" (st 80) N kU (R 860),T0,F0,bJ "plist_rows" (st 82),bB "plist_rows" 1366 619 3 3 862 true 863 N N (R 864) 1369 1370,bI "plist_rows" (st 82) N Bu (R 865),T0,F0,bJ "insert_piece" (st 83),bB "insert_piece" 1372 623 2 3 867 true 868 N N (R 869) 1375 1376,bI "insert_piece" (st 83) N Bu (R 870),T0,F0,Tn ["elder","plist","number","found"] 1381]
def Zv(P:ak):List Obj:=[
 T0,bJ "is_value" (st 84),bB "is_value" 1378 630 3 3 872 true 873 (R 874) (R 875) (R 876) 1385 1386,bI "is_value" (st 84) N Bu (R 877),T0,F0,bJ "set_property" (st 85),bB "set_property" 1388 635 5 3 879 true 880 N N (R 881) 1391 1392,bI "set_property" (st 85) N Bu (R 882),Tn ["boundary"] 1396,T0,X "builtin_function_or_method" [Bi "type.__prepare__",Ty "type"],D P [("__module__",1405,me),("__qualname__",1407,S "UndoList" 1406),("__firstlineno__",1409,It 654 1408),("__init__",1416,R 898),("count",1423,R 905),("is_at_boundary",1430,R 912),("boundary",1437,R 919),("begin_command",1445,R 926),("note_state",1454,R 933),("note_insert",1467,R 940),("note_delete",1483,R 947),("note_property",1496,R 954),("renew_unmodified",1502,R 959),("clear",1509,R 966),("__static_attributes__",1515,R 967)] 15,T0,F [I 656,I 4,R 897,I 663,I 4,R 904,I 666,I 4,R 911,I 669,I 4,R 918,I 673,I 4,R 925,I 676,I 4,R 932,I 681,I 4,R 939,I 691,I 4,R 946,I 703,I 4,R 953,I 708,I 4,R 958,I 712,I 4,R 965],bB "UndoList" 1400 654 0 0 888 false 889 N N N 1403 1404,Fm [some (R 890),some (R 3),some (R 887),none,some me,none,some (R 0)],T0,F0,Tn ["self"] 1413,T0,Fh "__init__" "UndoList.__init__" (su 88 0),Co "__init__" "UndoList.__init__" 1410 656 1 3 892 true 893 (R 894) (R 895) (R 896) 1414 1415,Fn "__init__" "UndoList.__init__" (su 88 0) N me (R 897),T0,F0,Tn ["self"] 1420,T0,Fh "count" "UndoList.count" (su 88 1),Co "count" "UndoList.count" 1417 663 1 3 899 true 900 (R 901) (R 902) (R 903) 1421 1422,Fn "count" "UndoList.count" (su 88 1) N me (R 904),T0]
def Zw(P:ak):List Obj:=[
 F0,Tn ["self"] 1427,T0,Fh "is_at_boundary" "UndoList.is_at_boundary" (su 88 2),Co "is_at_boundary" "UndoList.is_at_boundary" 1424 666 1 3 906 true 907 (R 908) (R 909) (R 910) 1428 1429,Fn "is_at_boundary" "UndoList.is_at_boundary" (su 88 2) N me (R 911),T0,F0,Tn ["self"] 1434,T0,Fh "boundary" "UndoList.boundary" (su 88 3),Co "boundary" "UndoList.boundary" 1431 669 1 3 913 true 914 (R 915) (R 916) (R 917) 1435 1436,Fn "boundary" "UndoList.boundary" (su 88 3) N me (R 918),T0,F0,Tn ["self","point"] 1441,T0,Fh "begin_command" "UndoList.begin_command" (su 88 4),Co "begin_command" "UndoList.begin_command" 1438 673 2 3 920 true 921 (R 922) (R 923) (R 924) 1443 1444,Fn "begin_command" "UndoList.begin_command" (su 88 4) N me (R 925),T0,F0,Tn ["self","is_modified","tick"] 1449,T0,Fh "note_state" "UndoList.note_state" (su 88 5),Co "note_state" "UndoList.note_state" 1446 676 3 3 927 true 928 (R 929) (R 930) (R 931) 1452 1453,Fn "note_state" "UndoList.note_state" (su 88 5) N me (R 932),T0,F0,Tn ["self","start","many","point","is_modified","tick","last"] 1458,T0,Fh "note_insert" "UndoList.note_insert" (su 88 6)]
def Zx(P:ak):List Obj:=[
 Co "note_insert" "UndoList.note_insert" 1455 681 6 3 934 true 935 (R 936) (R 937) (R 938) 1465 1466,Fn "note_insert" "UndoList.note_insert" (su 88 6) N me (R 939),T0,F0,Tn ["self","start","piece","point","markers","is_modified","tick","is_first","marker","distance"] 1471,T0,Fh "note_delete" "UndoList.note_delete" (su 88 7),Co "note_delete" "UndoList.note_delete" 1468 691 7 3 941 true 942 (R 943) (R 944) (R 945) 1481 1482,Fn "note_delete" "UndoList.note_delete" (su 88 7) N me (R 946),T0,F0,Tn ["self","start","end","number","elder","is_modified","tick"] 1487,T0,Fh "note_property" "UndoList.note_property" (su 88 8),Co "note_property" "UndoList.note_property" 1484 703 7 3 948 true 949 (R 950) (R 951) (R 952) 1494 1495,Fn "note_property" "UndoList.note_property" (su 88 8) N me (R 953),T0,F0,Fh "renew_unmodified" "UndoList.renew_unmodified" (su 88 9),Co "renew_unmodified" "UndoList.renew_unmodified" 1497 708 3 3 955 true 956 N N (R 957) 1500 1501,Fn "renew_unmodified" "UndoList.renew_unmodified" (su 88 9) N me (R 958),T0,F0,Tn ["self"] 1506,T0,Fh "clear" "UndoList.clear" (su 88 10),Co "clear" "UndoList.clear" 1503 712 1 3 960 true 961 (R 962) (R 963) (R 964) 1507 1508,Fn "clear" "UndoList.clear" (su 88 10) N me (R 965),Tn ["dropped","is_on","noted_tick","point_before","rows"] 1510,D P [("__module__",1405,me),("__firstlineno__",1409,It 654 1408),("__init__",1416,R 898),("count",1423,R 905),("is_at_boundary",1430,R 912),("boundary",1437,R 919),("begin_command",1445,R 926),("note_state",1454,R 933),("note_insert",1467,R 940),("note_delete",1483,R 947),("note_property",1496,R 954),("renew_unmodified",1502,R 959),("clear",1509,R 966),("__static_attributes__",1515,R 967),("__dict__",1517,R 970),("__weakref__",1519,R 971),("__doc__",1520,N)] 4,Cl "UndoList" "UndoList" [Ty "object"] [R 969,Ty "object"] 968 [] [none,none,some (S "UndoList" 1398),some (S "UndoList" 1406),some (Bi "object.__new__"),some (B true)],
 X "getset_descriptor" [S "__dict__" 1516,R 969,Bi "function.__dict__",Bi "function.__dict__#set"]]
def Zy(P:ak):List Obj:=[
 X "getset_descriptor" [S "__weakref__" 1518,R 969,Bi "ExceptionGroup.__weakref__",N],X "super" [R 969,R 969,R 969],X "builtin_function_or_method" [Bi "object.__init_subclass__",R 969],T0,F0,Tn ["place","start","end","is_advancing"] 1526,T0,bJ "marker_distance" (st 89),bB "marker_distance" 1523 714 4 3 974 true 975 (R 976) (R 977) (R 978) 1530 1531,bI "marker_distance" (st 89) N me (R 979),T0,F0,Tn ["buffer","start","end"] 1538,T0,bJ "need_visible" (st 91),bB "need_visible" 1535 719 3 3 981 true 982 (R 983) (R 984) (R 985) 1541 1542,bI "need_visible" (st 91) N uE (R 986),T0,F0,Tn ["rows","at","found"] 1547,T0,bJ "markers_ahead" (st 92),bB "markers_ahead" 1544 722 2 3 988 true 989 (R 990) (R 991) (R 992) 1550 1551,bI "markers_ahead" (st 92) N uE (R 993),T0,F0,Tn ["buffer","row"] 1556,T0,bJ "undo_insert" (st 93),bB "undo_insert" 1553 728 2 3 995 true 996 (R 997) (R 998) (R 999) 1558 1559,bI "undo_insert" (st 93) N uE (R 1000),T0]
def Zz(P:ak):List Obj:=[
 F0,Tn ["buffer","row","marker_rows","valid","word","marker","distance"] 1564,T0,bJ "undo_delete" (st 94),bB "undo_delete" 1561 732 3 3 1002 true 1003 (R 1004) (R 1005) (R 1006) 1571 1572,bI "undo_delete" (st 94) N uE (R 1007),T0,F0,Tn ["buffer","rows","at","row","marker_rows"] 1577,T0,bJ "undo_row" (st 95),bB "undo_row" 1574 744 3 3 1009 true 1010 (R 1011) (R 1012) (R 1013) 1582 1583,bI "undo_row" (st 95) N uE (R 1014),T0,F0,Tn ["rows","at"] 1588,T0,bJ "above_boundaries" (st 96),bB "above_boundaries" 1585 763 2 3 1016 true 1017 (R 1018) (R 1019) (R 1020) 1590 1591,bI "above_boundaries" (st 96) N uE (R 1021),T0,F0,Tn ["buffer","rows","at"] 1596,T0,bJ "undo_group" (st 97),bB "undo_group" 1593 767 3 3 1023 true 1024 (R 1025) (R 1026) (R 1027) 1599 1600,bI "undo_group" (st 97) N uE (R 1028),T0,X "builtin_function_or_method" [Bi "type.__prepare__",Ty "type"],D P [("__module__",1611,E6),("__qualname__",1613,S "Piece" 1612),("__firstlineno__",1615,It 773 1614),("__init__",1624,R 1043),("__static_attributes__",1627,R 1044)] 5,T0,F [I 775,I 4,R 1042]]
def ZC(P:ak):List Obj:=[
 bB "Piece" 1606 773 0 0 1033 false 1034 N N N 1609 1610,Fm [some (R 1035),some (R 3),some (R 1032),none,some E6,none,some (R 0)],T0,F0,Tn ["self","codes","runs"] 1619,T0,Fh "__init__" "Piece.__init__" (su 99 0),Co "__init__" "Piece.__init__" 1616 775 3 3 1037 true 1038 (R 1039) (R 1040) (R 1041) 1622 1623,Fn "__init__" "Piece.__init__" (su 99 0) N E6 (R 1042),Tn ["codes","runs"] 1625,D P [("__module__",1611,E6),("__firstlineno__",1615,It 773 1614),("__init__",1624,R 1043),("__static_attributes__",1627,R 1044),("__dict__",1629,R 1047),("__weakref__",1631,R 1048),("__doc__",1632,N)] 4,Cl "Piece" "Piece" [Ty "object"] [R 1046,Ty "object"] 1045 [] [none,none,some (S "Piece" 1604),some (S "Piece" 1612),some (Bi "object.__new__"),some (B true)],X "getset_descriptor" [S "__dict__" 1628,R 1046,Bi "function.__dict__",Bi "function.__dict__#set"],X "getset_descriptor" [S "__weakref__" 1630,R 1046,Bi "ExceptionGroup.__weakref__",N],X "super" [R 1046,R 1046,R 1046],X "builtin_function_or_method" [Bi "object.__init_subclass__",R 1046],T0,X "builtin_function_or_method" [Bi "type.__prepare__",Ty "type"],D P [("__module__",1644,ml),("__qualname__",1646,S "Recording" 1645),("__firstlineno__",1648,It 779 1647),("__init__",1655,R 1064),("text_comes",1665,R 1071),("text_goes",1671,R 1076),("property_changes",1683,R 1083),("__static_attributes__",1685,R 1084)] 8,T0,F [I 781,I 4,R 1063,I 784,I 4,R 1070,I 787,I 4,R 1075,I 798,I 4,R 1082],bB "Recording" 1639 779 0 0 1054 false 1055 N N N 1642 1643,Fm [some (R 1056),some (R 3),some (R 1053),none,some ml,none,some (R 0)],T0,F0,Tn ["self"] 1652,T0,Fh "__init__" "Recording.__init__" (su 101 0),Co "__init__" "Recording.__init__" 1649 781 1 3 1058 true 1059 (R 1060) (R 1061) (R 1062) 1653 1654,Fn "__init__" "Recording.__init__" (su 101 0) N ml (R 1063),T0,F0]
def ZD(P:ak):List Obj:=[
 Tn ["self","buffer","start","many"] 1659,T0,Fh "text_comes" "Recording.text_comes" (su 101 1),Co "text_comes" "Recording.text_comes" 1656 784 4 3 1065 true 1066 (R 1067) (R 1068) (R 1069) 1663 1664,Fn "text_comes" "Recording.text_comes" (su 101 1) N ml (R 1070),T0,F0,Fh "text_goes" "Recording.text_goes" (su 101 2),Co "text_goes" "Recording.text_goes" 1666 787 4 3 1072 true 1073 N N (R 1074) 1669 1670,Fn "text_goes" "Recording.text_goes" (su 101 2) N ml (R 1075),T0,F0,Tn ["self","buffer","start","end","number","elder"] 1675,T0,Fh "property_changes" "Recording.property_changes" (su 101 3),Co "property_changes" "Recording.property_changes" 1672 798 6 3 1077 true 1078 (R 1079) (R 1080) (R 1081) 1681 1682,Fn "property_changes" "Recording.property_changes" (su 101 3) N ml (R 1082),Tn ["list"] 1684,D P [("__module__",1644,ml),("__firstlineno__",1648,It 779 1647),("__init__",1655,R 1064),("text_comes",1665,R 1071),("text_goes",1671,R 1076),("property_changes",1683,R 1083),("__static_attributes__",1685,R 1084),("__dict__",1687,R 1087),("__weakref__",1689,R 1088),("__doc__",1690,N)] 4,Cl "Recording" "Recording" [Ty "object"] [R 1086,Ty "object"] 1085 [] [none,none,some (S "Recording" 1637),some (S "Recording" 1645),some (Bi "object.__new__"),some (B true)],X "getset_descriptor" [S "__dict__" 1686,R 1086,Bi "function.__dict__",Bi "function.__dict__#set"],X "getset_descriptor" [S "__weakref__" 1688,R 1086,Bi "ExceptionGroup.__weakref__",N],X "super" [R 1086,R 1086,R 1086],X "builtin_function_or_method" [Bi "object.__init_subclass__",R 1086],T0,F0,Tn ["deck","many"] 1698,T0,bJ "_law_draw" (st 103),bB "_law_draw" 1695 801 2 3 1091 true 1092 (R 1093) (R 1094) (R 1095) 1700 1701,bI "_law_draw" (st 103) N iz (R 1096),T0]
def ZE(P:ak):List Obj:=[
 F0,Tn ["deck","items"] 1706,T0,bJ "_law_pick" (st 104),bB "_law_pick" 1703 806 2 3 1098 true 1099 (R 1100) (R 1101) (R 1102) 1708 1709,bI "_law_pick" (st 104) N iz (R 1103),T0,F0,bJ "_law_buffer" (st 105),bB "_law_buffer" 1711 808 1 3 1105 true 1106 N N (R 1107) 1714 1715,bI "_law_buffer" (st 105) N iz (R 1108),T0,F0,bJ "_law_shown" (st 106),bB "_law_shown" 1717 814 1 3 1110 true 1111 N N (R 1112) 1720 1721,bI "_law_shown" (st 106) N iz (R 1113),T0,F0,Tn ["buffer","deed","signal_here"] 1726,T0,bJ "_law_done" (st 107),bB "_law_done" 1723 816 2 3 1115 true 1116 (R 1117) (R 1118) (R 1119) 1729 1730,bI "_law_done" (st 107) N iz (R 1120),T0,F0,bJ "_law_turned" (st 108),bB "_law_turned" 1732 825 2 3 1122 true 1123 N N (R 1124) 1735 1736,bI "_law_turned" (st 108) N iz (R 1125),T0,F0,Tn ["dicts","deed","many","is_read_only","found"] 1741,T0]
def ZF(P:ak):List Obj:=[
 bJ "_law_due" (st 109),bB "_law_due" 1738 835 4 3 1127 true 1128 (R 1129) (R 1130) (R 1131) 1746 1747,bI "_law_due" (st 109) N iz (R 1132),T0,F0,Tn ["deck","many","word","one","other"] 1752,T0,bJ "_law_deed" (st 110),bB "_law_deed" 1749 844 2 3 1134 true 1135 (R 1136) (R 1137) (R 1138) 1757 1758,bI "_law_deed" (st 110) N iz (R 1139),T0,F0,bJ "law" (st 111),bB "law" 1760 848 1 3 1141 true 1142 N N (R 1143) 1763 1764,bI "law" (st 111) N iz (R 1144)]
def ZG(P:ak):List (List Obj):=[YR P,YS P,YT P,YV P,YW P,YX P,YY P,YZ P,Y8 P,Za P,Zb P,Zc P,Zd P,Ze P,Zf P,Zg P,Zh P,Zi P,Zj P,Zk P,Zm P,Zn P,Zo P,Zq P,Zr P,Zt P,Zu P,Zv P,Zw P,Zx P,Zy P,Zz P,ZC P,ZD P,ZE P,ZF P]
def ZH(P:ak):List Obj:=[boot_o_0 P,boot_o_1 P,boot_o_2 P,boot_o_3 P,boot_o_4 P,boot_o_5 P,boot_o_6 P,boot_o_7 P,boot_o_8 P,boot_o_9 P,boot_o_10 P]
def nQ:List (String×Nat×Value):=[
 ("__doc__",166,N),
 ("__package__",167,N),
 ("__loader__",168,Bi "__main__.__loader__#opaque"),
 ("__spec__",169,N),
 ("__annotations__",170,R 6),
 ("__builtins__",171,R 4),
 ("__file__",173,S "/claim/cut.py" 172),
 ("__cached__",174,N),
 ("_wall",193,R 21),
 ("LispSignal",226,R 38),
 ("eq",236,R 48),
 ("plist_find",245,R 55),
 ("plist_get",254,R 62),
 ("plist_with",264,R 69),
 ("plist_without",270,R 74),
 ("holds_pair",280,R 81),
 ("same_plist",290,R 88),
 ("plist_removed",296,R 93),
 ("changed_properties",307,R 100),
 ("Interval",343,R 117),
 ("IntervalTree",373,R 138),
 ("total_of",380,R 149),
 ("own_length",387,R 156),
 ("text_length",394,R 163),
 ("put_in_stead",404,R 170),
 ("set_left",412,R 177),
 ("set_right",420,R 184),
 ("rotate_right",430,R 191),
 ("rotate_left",440,R 198),
 ("right_turn_helps",449,R 205),
 ("left_turn_helps",458,R 212),
 ("settle",470,R 219),
 ("settle_up",478,R 226),
 ("add_above",486,R 233),
 ("find_interval",498,R 240),
 ("leftmost",505,R 247),
 ("rightmost",512,R 254),
 ("following",519,R 261),
 ("preceding",526,R 268),
 ("put_behind",535,R 275),
 ("put_ahead",545,R 282),
 ("split_at",556,R 289),
 ("drop_interval",568,R 296),
 ("insert_interval",579,R 303),
 ("delete_range",590,R 310),
 ("TextProps",675,R 369),
 ("properties_at",683,R 380),
 ("range_nodes",695,R 387),
 ("join_at",707,R 394),
 ("join_range",720,R 401),
 ("set_properties",732,R 408),
 ("rows_between",745,R 415),
 ("rows_between_textprops",746,R 415),
 ("put_rows",758,R 422),
 ("put_rows_textprops",759,R 422),
 ("text_inserted",769,R 429),
 ("text_deleted",778,R 436),
 ("need_range",791,R 443),
 ("told_undo",803,R 450),
 ("need_writable_props",810,R 457),
 ("turn_rows",816,R 462),
 ("put",829,R 469),
 ("put_all",840,R 476),
 ("remove",851,R 483),
 ("GapText",971,R 570),
 ("Markers",1069,R 640),
 ("Opaque",1113,R 675),
 ("Buffer",1252,R 781),
 ("need_writable",1261,R 790),
 ("reached",1272,R 797),
 ("tell_ahead",1282,R 804),
 ("tell_behind",1293,R 811),
 ("text_out",1303,R 818),
 ("text_in",1312,R 825),
 ("hung_out",1321,R 832),
 ("hung_in",1331,R 839),
 ("put_in",1342,R 846),
 ("insert",1351,R 854),
 ("delete",1363,R 861),
 ("plist_rows",1371,R 866),
 ("insert_piece",1377,R 871),
 ("is_value",1387,R 878),
 ("set_property",1393,R 883),
 ("BOUNDARY",1397,R 884),
 ("UndoList",1522,R 969),
 ("marker_distance",1532,R 980),
 ("need_visible",1543,R 987),
 ("markers_ahead",1552,R 994),
 ("undo_insert",1560,R 1001),
 ("undo_delete",1573,R 1008),
 ("undo_row",1584,R 1015),
 ("above_boundaries",1592,R 1022),
 ("undo_group",1601,R 1029),
 ("Piece",1634,R 1046),
 ("Recording",1692,R 1086),
 ("_law_draw",1702,R 1097),
 ("_law_pick",1710,R 1104),
 ("_law_buffer",1716,R 1109),
 ("_law_shown",1722,R 1114),
 ("_law_done",1731,R 1121),
 ("_law_turned",1737,R 1126),
 ("_law_due",1748,R 1133),
 ("_law_deed",1759,R 1140),
 ("law",1765,R 1145)]
def ZI:List Value:=[I 1,I 0,R 20,I 5,I 0,R 27,I 11,I 0,R 47,I 15,I 0,R 54,I 20,I 0,R 61,I 23,I 0,R 68,I 28,I 0,R 73,I 30,I 0,R 80,I 33,I 0,R 87,I 40,I 0,R 92,I 42,I 0,R 99,I 52,I 0,R 106,I 60,I 0,R 127,I 64,I 0,R 148,I 66,I 0,R 155,I 68,I 0,R 162,I 70,I 0,R 169,I 80,I 0,R 176,I 84,I 0,R 183,I 88,I 0,R 190,I 97,I 0,R 197,I 106,I 0,R 204,I 112,I 0,R 211,I 118,I 0,R 218,I 132,I 0,R 225,I 135,I 0,R 232,I 139,I 0,R 239,I 152,I 0,R 246,I 156,I 0,R 253,I 160,I 0,R 260,I 166,I 0,R 267,I 172,I 0,R 274,I 180,I 0,R 281,I 188,I 0,R 288,I 197,I 0,R 295,I 213,I 0,R 302,I 225,I 0,R 309,I 236,I 0,R 316,I 258,I 0,R 379,I 262,I 0,R 386,I 275,I 0,R 393,I 287,I 0,R 400,I 295,I 0,R 407,I 303,I 0,R 414,I 315,I 0,R 421,I 322,I 0,R 428,I 326,I 0,R 435,I 330,I 0,R 442,I 335,I 0,R 449,I 340,I 0,R 456,I 343,I 0,R 461,I 362,I 0,R 468,I 364,I 0,R 475,I 368,I 0,R 482,I 371,I 0,R 489,I 437,I 0,R 580,I 476,I 0,R 650,I 487,I 0,R 685,I 553,I 0,R 789,I 556,I 0,R 796,I 561,I 0,R 803,I 564,I 0,R 810,I 568,I 0,R 817,I 576,I 0,R 824,I 583,I 0,R 831,I 588,I 0,R 838,I 593,I 0,R 845,I 605,I 0,R 853,I 607,I 0,R 860,I 619,I 0,R 865,I 623,I 0,R 870,I 630,I 0,R 877,I 635,I 0,R 882,I 654,I 0,R 890,I 714,I 0,R 979,I 719,I 0,R 986,I 722,I 0,R 993,I 728,I 0,R 1000,I 732,I 0,R 1007,I 744,I 0,R 1014,I 763,I 0,R 1021,I 767,I 0,R 1028,I 773,I 0,R 1035,I 779,I 0,R 1056,I 801,I 0,R 1096,I 806,I 0,R 1103,I 808,I 0,R 1108,I 814,I 0,R 1113,I 816,I 0,R 1120,I 825,I 0,R 1125,I 835,I 0,R 1132,I 844,I 0,R 1139,I 848,I 0,R 1144]
def ZJ:Obj:=Cl "Opaque" "Opaque" [Ty "object"] [R 675,Ty "object"] 674 [] [none,none,some (S "Opaque" 1072),some (S "Opaque" 1080),some (Bi "object.__new__"),some (B true)]
def ZK(P:ak):Obj:=D0 P [("type.__subclasses__.Exception.0",223,I 38),("type.__subclasses__.Exception.n",224,I 1)] 2
def ob(P:ak)(nm:Value)(gk ck:Nat)(w2 w6:Bool)(b:Nat):Obj:=
 match ai b 3 with
 |true=>D P (("__name__",165,nm)::nQ.take gk) (gk+1)
 |false=>match ai b 12 with
  |true=>F (ZI.take ck)
  |false=>match dU b 11 with
   |true=>match ai b 2 && w2 with
    |true=>ZK P
    |false=>(ZH P).getD b T0
   |false=>match ai b 675 && w6 with
    |true=>ZJ
    |false=>((ZG P).getD ((b-11) / 32) []).getD ((b-11) % 32) T0
def mk(f:Nat->Obj)(n:Nat):Nat->Nat->Nat->BT
 |0,_,_=>.nil
 |k+1,a,b=>match dU b n with
  |true=>.node (f b) (mk f n k (2 * a) (a+b)) (mk f n k (2 * a) (2 * a+b))
  |false=>.nil
def wu(P:ak)(n toks:Nat)(nm:Value)(gk ck:Nat)(w2 w6:Bool)(os:dJ):SharedT:=
 ⟨mk (ob P nm gk ck w2 w6) n 12 1 0,n,{},cf [],{},toks,os⟩
def jo:Env:={ scope:=pw.main.scope,locals:=mainNs,globals:=mainNs,cells:=[],code:=.ref 13,frame:=some 14}
def bE:List Stmt:=behindTheImports pw
abbrev cE:Code:=.body bE jo
abbrev tF:List Frame:=[topFrame ⟨0,0,0,0⟩]
def s0(P:ak)(os:dJ):SharedT:=wu P 15 187 (S "__main__" 164) 8 0 false true os
def s1(P:ak)(os:dJ):SharedT:=wu P 122 344 cC 20 36 true true os
def s2(P:ak)(os:dJ):SharedT:=wu P 311 593 fM 45 111 true true os
def s3(P:ak)(os:dJ):SharedT:=wu P 484 854 kR 64 162 true true os
def s4(P:ak)(os:dJ):SharedT:=wu P 575 974 mi 65 165 true true os
def s5(P:ak)(os:dJ):SharedT:=wu P 680 1116 jn 67 171 true true os
def s6(P:ak)(os:dJ):SharedT:=wu P 855 1352 kU 78 204 true false os
def s7(P:ak)(os:dJ):SharedT:=wu P 1030 1604 E6 93 246 true false os
def s8(P:ak)(os:dJ):SharedT:=wu P 1146 1766 iz 104 279 true false os
def b0:List Stmt:=[aV 0,aV 1,aV 2,aV 3,aV 4,aV 5,aV 6,aV 7,aV 8,aV 9,aV 10,aV 11,aV 12,aV 13,aV 14]
def b1:List Stmt:=[aV 15,aV 16,aV 17,aV 18,aV 19,aV 20,aV 21,aV 22,aV 23,aV 24,aV 25,aV 26,aV 27,aV 28,aV 29,aV 30,aV 31,aV 32,aV 33,aV 34,aV 35,aV 36,aV 37,aV 38,aV 39,aV 40]
def b2:List Stmt:=[aV 41,aV 42,aV 43,aV 44,aV 45,aV 46,aV 47,aV 48,aV 49,aV 50,aV 51,aV 52,aV 53,aV 54,aV 55,aV 56,aV 57,aV 58,aV 59,aV 60,aV 61]
def b3:List Stmt:=[aV 62,aV 63]
def b4:List Stmt:=[aV 64,aV 65,aV 66,aV 67]
def b5:List Stmt:=[aV 68,aV 69,aV 70,aV 71,aV 72,aV 73,aV 74,aV 75,aV 76,aV 77,aV 78,aV 79]
def b6:List Stmt:=[aV 80,aV 81,aV 82,aV 83,aV 84,aV 85,aV 86,aV 87,aV 88,aV 89,aV 90,aV 91,aV 92,aV 93,aV 94,aV 95,aV 96,aV 97,aV 98]
def b7:List Stmt:=[aV 99,aV 100,aV 101,aV 102,aV 103,aV 104,aV 105,aV 106,aV 107,aV 108,aV 109,aV 110,aV 111]
def ZL(w:aK):(λos=>hW dB pw w 11 (some (.ref 6)) 1 787 (s0 w.params os) (hV b0 jo cE ⟨0,0,0,0⟩ tF))=λos=>some (.next,s1 w.params os,cE,⟨52,0,59,26⟩):=by
 rw[ia,ey]
 kernel_rfl
def ZM(w:aK):(λos=>hW dB pw w 11 (some (.ref 6)) 1 978 (s1 w.params os) (hV b1 jo cE ⟨52,0,59,26⟩ tF))=λos=>some (.next,s2 w.params os,cE,⟨235,0,235,8⟩):=by
 rw[ia,ey]
 kernel_rfl
def ZN(w:aK):(λos=>hW dB pw w 11 (some (.ref 6)) 1 981 (s2 w.params os) (hV b2 jo cE ⟨235,0,235,8⟩ tF))=λos=>some (.next,s3 w.params os,cE,⟨370,0,370,8⟩):=by
 rw[ia,ey]
 kernel_rfl
def ZO(w:aK):(λos=>hW dB pw w 11 (some (.ref 6)) 1 561 (s3 w.params os) (hV b3 jo cE ⟨370,0,370,8⟩ tF))=λos=>some (.next,s4 w.params os,cE,⟨436,0,436,8⟩):=by
 rw[ia,ey]
 kernel_rfl
def ZP(w:aK):(λos=>hW dB pw w 11 (some (.ref 6)) 1 759 (s4 w.params os) (hV b4 jo cE ⟨436,0,436,8⟩ tF))=λos=>some (.next,s5 w.params os,cE,⟨486,0,486,8⟩):=by
 rw[ia,ey]
 kernel_rfl
def ZQ(w:aK):(λos=>hW dB pw w 11 (some (.ref 6)) 1 974 (s5 w.params os) (hV b5 jo cE ⟨486,0,486,8⟩ tF))=λos=>some (.next,s6 w.params os,cE,⟨605,0,606,61⟩):=by
 rw[ia,ey]
 kernel_rfl
def ZR(w:aK):(λos=>hW dB pw w 11 (some (.ref 6)) 1 1001 (s6 w.params os) (hV b6 jo cE ⟨605,0,606,61⟩ tF))=λos=>some (.next,s7 w.params os,cE,⟨772,0,772,8⟩):=by
 rw[ia,ey]
 kernel_rfl
def ZS(w:aK):(λos=>hW dB pw w 11 (some (.ref 6)) 1 823 (s7 w.params os) (hV b7 jo cE ⟨772,0,772,8⟩ tF))=λos=>some (.next,s8 w.params os,cE,⟨848,0,872,73⟩):=by
 rw[ia,ey]
 kernel_rfl
abbrev S0(w:aK)(os:dJ):Shared:=⟨jl w.params,cf [],boot_drawn,boot_toks,os⟩
def pre(w:aK):(λos=>topGo dB pw w 11 (some (.ref 6)) 12 (S0 w os) (topStub pw))=λos=>some ((s0 w.params os).abs,⟨denote dB cE,cE,⟨0,0,0,0⟩,tF⟩):=by
 rw[PySem.W.Fast.te15667345088766844465,ey,PySem.W.Fast.te11892475500146522536]
 kernel_rfl
def ZT(w:aK):(λos=>segRun dB pw w 11 (some (.ref 6)) 1 1 (s0 w.params os).abs (blockOf bE jo cE ⟨0,0,0,0⟩ tF))=λos=>some (.next,(s0 w.params os).abs,cE,⟨0,0,0,0⟩):=by
 rw[PySem.W.Fast.te14374325043358763698,ey]
 kernel_rfl
def H1(P:ak):Heap:=(s8 P default).abs.heap
def fin(w:aK):(λos=>topRun dB pw w 11 (some (.ref 6)) 2 (s8 w.params os).abs ⟨doneF .next,cE,⟨848,0,872,73⟩,tF⟩)=λos=>some ⟨H1 w.params,cf [],{},1766,os⟩:=by
 rw[PySem.W.Fast.te14082659384304107361,ey]
 kernel_rfl
def ZU:bE=b0++(b1++(b2++(b3++(b4++(b5++(b6++(b7++[]))))))):=by kernel_rfl
abbrev M0:Nat:=(12+(1+(787+(978+(981+(561+(759+(974+(1001+(823+2))))))))))
def run(w:aK)(os:dJ):topRun dB pw w 11 (some (.ref 6)) M0 (S0 w os) (topStub pw)=some ⟨H1 w.params,cf [],{},1766,os⟩:=by
 exact go_top (congrFun (pre w) os) (piece_block (env:=jo) (b:=bE) (congrFun (ZT w) os) ?_);rw[ZU];exact hJ (hO (congrFun (ZL w) os)) ?_;exact hJ (hO (congrFun (ZM w) os)) ?_;exact hJ (hO (congrFun (ZN w) os)) ?_;exact hJ (hO (congrFun (ZO w) os)) ?_;exact hJ (hO (congrFun (ZP w) os)) ?_;exact hJ (hO (congrFun (ZQ w) os)) ?_;exact hJ (hO (congrFun (ZR w) os)) ?_;exact hJ (hO (congrFun (ZS w) os)) ?_;show piece_nil (congrFun (fin w) os)
def ZV:opening pw=plainProg pw.main.scope.names:=by kernel_rfl
def ZW(s:Shared):fenceModules? pw s=some s:=by kernel_rfl
theorem ZX(w:aK):(fencedOpening dB pw w 20000).map (λs=>(s.heap,s.gens,s.drawn,s.toks))=some (jl w.params,cf [],boot_drawn,boot_toks):=boot_open ZV (by decide +kernel) ZW w
def ZY(w:aK):((jl w.params).isNs mainGlobals && (cf []:Array GenState).size == 0,(jl w.params).objs.size,(jl w.params).nsMap mainGlobals "__annotations__")=(true,11,some (.ref 6)):=by kernel_rfl
def qv:Program:={ pw with main:={ pw.main with body:=[aV 111]}}
def lz:List Str:=pw.boundNames.filter λn=>!(n == ("law":Str)) && !(n == ("__name__":Str))
def ZZ(w:aK):(λos=>(staticsOk (tQ pw.main.body) (jl w.params) (H1 w.params) && namesBound pw (H1 w.params) && gensDone ⟨H1 w.params,cf [],{},1766,os⟩ && laidKept (jl w.params) (H1 w.params)))=λ_=>true:=by kernel_rfl
abbrev Kx(s:Shared):Bool:=xlAt qv [] s && recOk um.row.toRowW.records s
def Z0(w:aK):(λos=>openSeen qv lz (tQ pw.main.body) Kx true ⟨H1 w.params,cf [],{},1766,os⟩)=λ_=>openGood qv lz:=by
 rw[PySem.W.Fast.te4187177175401517315]
 kernel_rfl
abbrev eV:OpenLaw:=um
def Z1:noRoadLSs { strict:=!(tQ eV.row.prog.main.body).all cThrough.contains,foot:=none,bare:=(["vars","dir","locals"]:List Str).filter (readsOut eV.row.prog eV.row.prog.main.body)} eV.row.prog.main.body=true:=by
 rewrite [PySem.W.Fast.te8326940854005059898]
 kernel_rfl
def Z3:namesMeet eV.row.prog eV.row.prog.main.body (λ_ n=>attrL n)=true:=by
 rewrite [PySem.W.Fast.te17119622794617984870]
 kernel_rfl
def Z4:namesResolve eV.row.prog=true:=by
 rewrite [PySem.W.Fast.te8377067652309620493]
 kernel_rfl
def Z5:looksOpen eV.row.prog=true:=by
 unfold looksOpen
 rewrite [Z1,Z3,Z4]
 kernel_rfl
def Z6:eV.row.partSaid=true:=by
 unfold OpenRow.partSaid
 rewrite [Z5]
 kernel_rfl
def Z7:eV.row.wellSaid=true:=by
 unfold OpenRow.wellSaid
 rewrite [Z6]
 kernel_rfl
def said:eV.wellSaid=true:=by
 unfold OpenLaw.wellSaid
 rewrite [Z7]
 kernel_rfl
theorem Z8:LeftO eV.row.prog qv lz Kx (λs=>s.heap) (λw=>H1 w.params) 20000:=
 LeftO.of_pieces (p:=pw) (M:=M0) ZX ZY run (by decide +kernel) λw=>by
  funext os
  show Prod.ext (congrFun (ZZ w) os) (Prod.ext (congrFun (Z0 w) os) rfl)
def Bv:DefRec:={ name:="law",params:=rC (aV 111),body:=vG (aV 111),scope:=eW (aV 111),pos:=⟨848,0,872,73⟩}
def Ky:defOf qv eV.row.name=some (Bv,[]):=by kernel_rfl
def Kz:eV.row.prog.theDef eV.row.name=some (Bv.params,Bv.body,Bv.scope):=by kernel_rfl
def Z9:kwWritten? Bv.params.kwonlyargs Bv.params.kw_defaults=some []:=by kernel_rfl
def aA:(chainsOk qv && opensWell eV.row.prog && (frees eV.row.toRowW && eV.row.within.isEmpty))=true:=by decide +kernel
def KC:eV.row.prog.tablesWhole=true:=by decide +kernel
theorem E7:eV.row.prog.bare:=⟨rfl,rfl,rfl,rfl,rfl,KC⟩
theorem aoF:eV.row.toRowW.promised:=⟨[.list []],by decide +kernel,by decide +kernel⟩
abbrev QV:Prop:=WalkO qv lz (XL qv []) (λw h=>(H1 w.params).StaysIn h) eV.row.toRowW Bv [] λf vs=>call f vs
theorem head(cal:QV):um.Holds:=
 holds_law said λk1=>holds_open (r:=eV.row) (q:=qv) (loose:=lz) (Xt:=Kx) (XP:=XL qv []) (Yf:=λs=>s.heap) (Ya:=λw=>H1 w.params) (YP:=λw h=>(H1 w.params).StaysIn h) (N:=20000) Z8
  (λw s e=>by rw[<-e];show λ_ _ q=>q) (λw h h' y k b o e=>k b o (y b o e)) (λs e=>xl_of s (dN.mp e).1) XL.keeps Ky Kz Z9 (λs e=>recFacts_of (dN.mp e).2) rfl k1 aA E7 aoF cal
end
end Lh.Tactic
namespace Tactic
open PySem PySem.W PySem.Calls PyProof.Rows

end Tactic
namespace Tactic
variable{o:Option O}
abbrev big:Nat:=100000
set_option genInjectivity true in
inductive Da where
 |none
 |bool (b:Bool)
 |int (i:Int)
 |str (k:Nat)
 |lst (l:List Da)
 |tup (l:List Da)
def Da.ctorIdx(v:Da):Nat:=(by cases v with | none=>show 0 | bool=>show 1 | int=>show 2 | str=>show 3 | lst=>show 4 | tup=>show 5)
mutual
inductive Rd(s:So):V->Da->Prop
 |none:Rd s .none .none
 |bool (b:Bool):Rd s (.bool b) (.bool b)
 |int (i:Int):Rd s (.int i) (.int i)
 |str (k:Nat):Rd s (.str k) (.str k)
 |lst {a:Nat}{xs:List V}{l:List Da}:s a=some (.lst xs)->kW s xs l->Rd s (.ref a) (.lst l)
 |tup {a:Nat}{xs:List V}{l:List Da}:s a=some (.tup xs)->kW s xs l->Rd s (.ref a) (.tup l)
inductive kW(s:So):List V->List Da->Prop
 |nil:kW s [] []
 |cons {v:V}{d:Da}{vs:List V}{ds:List Da}:Rd s v d->kW s vs ds->kW s (v::vs) (d::ds)
end
mutual
noncomputable def Da.eq:Da->Da->Bool
 | .none,.none=>true
 | .bool a,.bool b=>a == b
 | .int i,.int j=>decide (i=j)
 | .str i,.str j=>ai i j
 | .lst l,.lst r=>Da.eqs l r
 | .tup l,.tup r=>Da.eqs l r
 | .bool b,.int j=>decide ((if b then 1 else 0:Int)=j)
 | .int j,.bool b=>decide (j=(if b then 1 else 0:Int))
 |_,_=>false
noncomputable def Da.eqs:List Da->List Da->Bool
 | [],[]=>true
 |d::l,e::r=>Da.eq d e && Da.eqs l r
 |_,_=>false
end
mutual
noncomputable def Da.deep:Da->Nat
 | .lst l=>Da.qM l+1
 | .tup l=>Da.qM l+1
 |_=>0
noncomputable def Da.qM:List Da->Nat
 | []=>0
 |d::l=>max (Da.deep d) (Da.qM l)
end
def KD(v:V):Option Da:=match v with
 | .none=>some .none
 | .bool b=>some (.bool b)
 | .int i=>some (.int i)
 | .str k=>some (.str k)
 |_=>aP
def sD(d e:Da):Option Bool:=match d,e with
 | .none,.none=>some true
 | .none,.int _=>some false
 | .int _,.none=>some false
 | .bool a,.bool b=>some (a == b)
 | .int i,.int j=>some (decide (i=j))
 | .str i,.str j=>some (ai i j)
 | .bool _,.str _=>some false
 | .str _,.bool _=>some false
 |_,_=>aP
def sEq(v w:V):Option Bool:=(KD v).bind λd=>(KD w).bind (sD d)
def fB:List (Int×V)->Int->Option V
 | [],_=>aP
 |(k,v)::r,x=>if k=x then some v else fB r x
def dup:List (Int×V)->Int->V->List (Int×V)
 | [],x,v=>[(x,v)]
 |(k,u)::r,x,v=>if k=x then (k,v)::r else (k,u)::dup r x v
def wy(d e:List (Int×V)):Prop:=d.length=e.length/\∀p∈d,∃i,p.2=.int i/\fB e p.1=some (.int i)
def rD(es:List (Int×V)):Prop:=∀p∈es,∃i,p.2=V.int i
class inductive qO(s:So):List V->List (List (Int×V))->Prop
 |nil:qO s [] []
 |cons {a:Nat}{es:List (Int×V)}{vs:List V}{ds:List (List (Int×V))}{ep:Nat}:s a=some (.cu es ep)->rD es->qO s vs ds->qO s (.ref a::vs) (es::ds)
def truth(v:V)(K:Bool->Prop):Prop:=match v with
 | .bool b=>K b
 |_=>False
abbrev d8(v:V)(p:Int->Prop):Prop:=match v with
 | .int i=>p i
 |_=>False
abbrev KG(v:V)(p:Prop)(q:Int->Prop):Prop:=match v with
 | .none=>p
 | .int i=>q i
 |_=>False
abbrev fN(v:V)(p:Nat->Prop):Prop:=match v with
 | .ref a=>p a
 |_=>False
abbrev m9(o:Option O)(p:List V->Prop):Prop:=match o with
 |some (.lst xs)=>p xs
 |_=>False
abbrev Ip(o:Option O)(p:List V->Prop):Prop:=match o with
 |some (.lst xs)=>p xs
 |some (.tup xs)=>p xs
 |_=>False
abbrev wz(o:Option O)(p:List V->Prop):Prop:=match o with
 |some (.lst xs)=>p xs
 |some (.tup xs)=>p xs
 |some (.fL xs)=>p xs
 |_=>False
abbrev KH(l:List V)(p:Prop):Prop:=match l with
 | []=>p
 |_=>False
abbrev gu(l:List V)(p:V->Prop):Prop:=match l with
 | [x]=>p x
 |_=>False
abbrev jQ(l:List V)(p:V->V->Prop):Prop:=match l with
 |x::r=>gu r (p x)
 |_=>False
abbrev E8(o:Option O)(p:Nat->List (Nat×V)->Prop):Prop:=match o with
 |some (.inst c fs)=>p c fs
 |_=>False
abbrev vH(o:Option O)(p:List V->Prop):Prop:=match o with
 |some (.tup xs)=>p xs
 |_=>False
abbrev KJ(o:Option O)(p:List (Int×V)->Nat->Prop):Prop:=match o with
 |some (.cu es ep)=>p es ep
 |_=>False
abbrev Bw(o:Option O)(p:List (Int×V)->Nat->Prop)(q:List V->Prop):Prop:=match o with
 |some (.cu es ep)=>p es ep
 |some (.lst xs)=>q xs
 |_=>False
abbrev qc{α:Type}(o:Option α)(p:α->Prop):Prop:=match o with
 |some x=>p x
 |aP=>False
abbrev QW(o:Option V)(p:Prop):Prop:=match o with
 |aP=>p
 |_=>False
abbrev QX(o:Option V)(p:List Nat->E->List (Nat×V)->Prop):Prop:=match o with
 |some (.dz a b c)=>p a b c
 |_=>False
abbrev vJ(b:Bool)(p:Prop):Prop:=match b with
 |true=>p
 |false=>False
abbrev QY{α:Type}(l:List α)(p:Prop):Prop:=match l with
 | []=>p
 |_=>False
def vK(fw:Nat->Nat->Bool)(v:V)(k:Nat)(K:V->Prop)(s:So):Prop:=fN v λa=>E8 (s a) λc fs=>vJ (fw c k) (qc (lk fs k) K)
def qP(fw:Nat->Nat->Bool)(w:V)(k:Nat)(v:V)(K:So->Prop)(s:So):Prop:=fN w λa=>E8 (s a) λc fs=>vJ (fw c k) (vJ (dU fs.length 900) (K (put s a (.inst c (up fs k v)))))
def new(o:O)(Q:V->So->Prop)(s:So):Prop:=∀c,s c=aP->Q (.ref c) (put s c o)
def newD(es:List (Int×V))(Q:V->So->Prop)(s:So):Prop:=∀ep c,s c=aP->Q (.ref c) (put s c (.cu es ep))
def ix(xs:List V)(i:Int):Option V:=if 0<=i then xs[i.toNat]? else if 0<=i+xs.length then xs[(i+xs.length).toNat]? else aP
abbrev E9(o:Option O)(p:List V->Prop)(q:List V->Prop)(r:List (Int×V)->Prop):Prop:=match o with
 |some (.lst xs)=>p xs
 |some (.tup xs)=>q xs
 |some (.cu es _)=>r es
 |_=>False
def Fb(v w:V)(K:V->Prop)(s:So):Prop:=fN v λa=>d8 w λi=>E9 (s a) (λxs=>qc (ix xs i) K) (λxs=>qc (ix xs i) K) (λes=>qc (fB es i) K)
def Fc(v w x:V)(K:So->Prop)(s:So):Prop:=fN v λa=>d8 w λi=>Bw (s a) (λes _=>es.length<1000/\∀ep,K (put s a (.cu (dup es i x) ep))) (λxs=>0<=i/\i<xs.length/\K (put s a (.lst (xs.set i.toNat x))))
def arith(o:Ar)(v w:V)(Q:V->So->Prop)(s:So):Prop:=match o with
 | .add=>d8 v λi=>d8 w λj=>Q (.int (i+j)) s
 | .sub=>d8 v λi=>d8 w λj=>Q (.int (i-j)) s
 | .mul=>d8 v λi=>d8 w λj=>(i.natAbs<2 ^ 40/\j.natAbs<2 ^ 40)/\Q (.int (i * j)) s
 | .fdiv=>d8 v λi=>d8 w λj=>(0<j/\j<1000000)/\Q (.int (i.fdiv j)) s
 | .mod=>d8 v λi=>d8 w λj=>0<j/\Q (.int (i.fmod j)) s
 | .cat=>fN v λa=>fN w λb=>m9 (s a) λxs=>m9 (s b) λys=>xs.length+ys.length<big/\new (.lst (xs++ys)) Q s
 | .rep=>fN v λa=>d8 w λi=>m9 (s a) λxs=>(0<=i/\i<200/\xs.length * i.toNat<200)/\new (.lst (bH i.toNat xs).flatten) Q s
def eqs(v w:V)(K:Bool->Prop)(s:So):Prop:=match v,w with
 | .ref _,.ref _=>(∃d e,Rd s v d/\Rd s w e/\Da.deep d<20/\Da.deep e<20/\K (Da.eq d e)) \/
   (∃a b xs ys d e,v=.ref a/\w=.ref b/\s a=some (.lst xs)/\s b=some (.lst ys)/\qO s xs d/\qO s ys e/\((d.length=e.length/\∀p∈d.zip e,wy p.1 p.2)->K true)/\(¬ (d.length=e.length/\∀p∈d.zip e,wy p.1 p.2)->K false))
 |v,w=>qc (sEq v w) K
def wA(o:Option O):Bool:=match o with
 |some (.inst _ _)=>true
 |_=>false
def same(s:So)(v w:V):Option Bool:=match v with
 | .none=>(match w with
  | .none=>some true
  | .ref _=>some false
  | .int _=>some false
  | .bool _=>some false
  |_=>aP)
 | .ref a=>(match w with
  | .ref b=>bif wA (s a) && wA (s b) then some (ai a b) else aP
  | .none=>some false
  |_=>aP)
 | .int _=>(match w with
  | .none=>some false
  |_=>aP)
 | .bool _=>(match w with
  | .none=>some false
  |_=>aP)
 |_=>aP
def cmp(o:Cm)(v w:V)(K:Bool->Prop)(s:So):Prop:=match o with
 | .lt=>d8 v λi=>d8 w λj=>K (decide (i<j))
 | .le=>d8 v λi=>d8 w λj=>K (decide (i<=j))
 | .gt=>d8 v λi=>d8 w λj=>K (decide (j<i))
 | .ge=>d8 v λi=>d8 w λj=>K (decide (j<=i))
 | .eq=>eqs v w K s
 | .ne=>eqs v w (λb=>K (!b)) s
 | .is=>qc (same s v w) K
 | .cM=>qc (same s v w) λb=>K (!b)
 | .wq=>d8 v λi=>fN w λa=>Ip (s a) λxs=>∃l:List Int,xs=l.map V.int/\K (!l.contains i)
def insI(x:Int):List Int->List Int
 | []=>[x]
 |y::r=>if y<=x then y::insI x r else x::y::r
def sortI:List Int->List Int
 | []=>[]
 |x::r=>insI x (sortI r)
def uF(x:Int×V):List (Int×V)->List (Int×V)
 | []=>[x]
 |y::r=>if y.1<x.1 then y::uF x r else x::y::r
def lJ:List (Int×V)->List (Int×V)
 | []=>[]
 |x::r=>uF x (lJ r)
class inductive Pairs(s:So):List V->List (Int×V)->Prop
 |nil:Pairs s [] []
 |cons {a:Nat}{i j:Int}{vs:List V}{ps:List (Int×V)}:s a=some (.tup [.int i,.int j])->Pairs s vs ps->Pairs s (.ref a::vs) ((i,.ref a)::ps)
class inductive DO(s:So):List V->List (Int×V)->Prop
 |nil:DO s [] []
 |cons {a:Nat}{i j:Int}{r:List V}{d:List (Int×V)}:s a=some (.tup [.int i,.int j])->DO s r d->DO s (.ref a::r) ((i,.int j)::d)
def Iq(l:List (Int×V)):List (Int×V):=l.foldl (λd p=>dup d p.1 p.2) []
def bi(b:Bi)(l:List V)(Q:V->So->Prop)(s:So):Prop:=match b with
 | .len=>gu l λv=>fN v λa=>wz (s a) λxs=>Q (.int xs.length) s
 | .lst=>gu l λv=>fN v λa=>wz (s a) λxs=>xs.length<big/\new (.lst xs) Q s
 | .dict=>gu l λv=>fN v λa=>Bw (s a) (λes _=>es.length<1000/\newD es Q s) (λxs=>∃d,DO s xs d/\d.length<1000/\newD (Iq d) Q s)
 | .sorted=>gu l λv=>fN v λa=>Bw (s a) (λes _=>QY es (new (.lst []) Q s)) (λxs=>(∃l:List Int,xs=l.map V.int/\l.length<64/\new (.lst ((sortI l).map V.int)) Q s)\/(∃ps,Pairs s xs ps/\(ps.map (·.1)).Nodup/\ps.length<=3/\new (.lst ((lJ ps).map (·.2))) Q s))
 | .abs=>gu l λv=>d8 v λi=>Q (.int i.natAbs) s
 | .min=>jQ l λv w=>d8 v λi=>d8 w λj=>Q (.int (if j<i then j else i)) s
 | .max=>jQ l λv w=>d8 v λi=>d8 w λj=>Q (.int (if i<j then j else i)) s
def QZ(m:Lm)(v:V)(l:List V)(Q:V->So->Prop)(s:So):Prop:=fN v λa=>match m with
 | .append=>gu l λx=>m9 (s a) λxs=>xs.length<big/\Q .none (put s a (.lst (xs++[x])))
 | .extend=>gu l λx=>fN x λb=>m9 (s a) λxs=>m9 (s b) λys=>a≠b/\xs.length+ys.length<big/\Q .none (put s a (.lst (xs++ys)))
 | .pop=>KH l (m9 (s a) λxs=>∃r x,xs=r++[x]/\Q x (put s a (.lst r)))
def Bx(K:List (Int×V)->So->Prop):List (Int×V)->List (Int×V)->So->Prop
 | [],acc,s=>K acc s
 |(k,v)::r,acc,s=>∀c,s c=aP->Bx K r (acc++[(k,.ref c)]) (put s c (.tup [.int k,v]))
def loop(step:V->Env->(Env->So->Prop)->So->Prop)(G:So->Prop)(Q:Env->So->Prop):List V->Env->So->Prop
 | [],m,s=>G s/\Q m s
 |v::r,m,s=>G s/\step v m (λm' s'=>loop step G Q r m' s') s
def gather(step:V->Env->(Option V->So->Prop)->So->Prop)(G:So->Prop)(m:Env)(Q:List V->So->Prop):List V->List V->So->Prop
 | [],acc,s=>G s/\Q acc s
 |v::r,acc,s=>G s/\step v m (λo s'=>match o with
  |some x=>gather step G m Q r (acc++[x]) s'
  |aP=>gather step G m Q r acc s') s
def jI(t:List Nat)(v:V)(m:Env)(K:Env->Prop)(s:So):Prop:=match t with
 | [x]=>K (up m x v)
 |t=>fN v λa=>vH (s a) λxs=>xs.length=t.length/\K ((t.zip xs).foldl (λm p=>up m p.1 p.2) m)
def Fe(m:Env):List Nat->Option (List (Nat×V))
 | []=>some []
 |x::r=>match lk m x with
  |some (.dz _ _ _)=>aP
  |some v=>(Fe m r).map λc=>(x,v)::c
  |aP=>aP
def ups:List Nat->List V->Env->Env
 |x::r,v::l,m=>ups r l (up m x v)
 |_,_,m=>m
def Q0(vs:List V)(p:Int->Int->Prop):Prop:=match vs with
 | []=>False
 |v::r=>match r with
  | []=>d8 v (p 0)
  |w::t=>KH t (d8 v λa=>d8 w (p a))
def rE(a b:Int):List V:=(dA (b-a).toNat).map λ(i:Nat)=>V.int (a+(i:Int))
structure Wo where
 fw:Nat->Nat->Bool
 mt:Nat->Nat->Option Nat
 ctor:Nat->Option Nat
 call:Nat->List V->(V->So->Prop)->(Nat->So->Prop)->So->Prop
 nS:List Nat->E->Env->List V->(V->So->Prop)->So->Prop
def few(vs:List V)(P:Prop):Prop:=vJ (dU vs.length 900) P
def bW:Nat->So->Prop:=λ_ _=>False
def vL(K:List V->(So->Prop)->So->Prop)(v:V)(s:So):Prop:=fN v λa=>Bw (s a) (λes ep=>es.length<1000/\K (es.map λp=>.int p.1) (λs'=>s' a=some (.cu es ep)) s) λxs=>K xs (λs'=>s' a=some (.lst xs)) s
mutual
noncomputable def wE(W:Wo):E->Env->(V->So->Prop)->(Nat->So->Prop)->So->Prop
 | .stop,_,_,_,_=>False
 | .cN,_,Q,_,s=>Q .none s
 | .cB b,_,Q,_,s=>Q (.bool b) s
 | .cI i,_,Q,_,s=>Q (.int i) s
 | .cS k,_,Q,_,s=>Q (.str k) s
 | .v x,m,Q,_,s=>match lk m x with
  |some (.dz _ _ _)=>False
  |some v=>Q v s
  |aP=>False
 | .glob a,_,Q,_,s=>Q (.ref a) s
 | .attr e k,m,Q,X,s=>wE W e m (λv s=>vK W.fw v k (λx=>Q x s) s) X s
 | .ar o a b,m,Q,X,s=>wE W a m (λv s=>wE W b m (λw s=>arith o v w Q s) X s) X s
 | .not e,m,Q,X,s=>wE W e m (λv s=>truth v λt=>Q (.bool (!t)) s) X s
 | .jG c a b,m,Q,X,s=>wB W c m (wE W c m) (λt s=>match t with
  |true=>wE W a m Q X s
  |false=>wE W b m Q X s) X s
 | .and a b,m,Q,X,s=>wE W a m (λv s=>truth v λt=>match t with
  |true=>wE W b m Q X s
  |false=>Q v s) X s
 | .or a b,m,Q,X,s=>wE W a m (λv s=>truth v λt=>match t with
  |true=>Q v s
  |false=>wE W b m Q X s) X s
 | .cmp o a b,m,Q,X,s=>wE W a m (λv s=>wE W b m (λw s=>cmp o v w (λt=>Q (.bool t) s) s) X s) X s
 | .lj o p a b c,m,Q,X,s=>wE W a m (λv s=>wE W b m (λw s=>cmp o v w (λt=>match t with
  |true=>wE W c m (λu s=>cmp p w u (λt=>Q (.bool t) s) s) X s
  |false=>Q (.bool false) s) s) X s) X s
 | .list l,m,Q,X,s=>wEs W l m (λvs s=>few vs (new (.lst vs) Q s)) X s
 | .tup l,m,Q,X,s=>wEs W l m (λvs s=>few vs (new (.tup vs) Q s)) X s
 | .gN,_,Q,_,s=>newD [] Q s
 | .idx e i,m,Q,X,s=>wE W e m (λv s=>wE W i m (λw s=>Fb v w (λx=>Q x s) s) X s) X s
 | .lu e lo hi,m,Q,X,s=>wE W e m (λv s=>wO W lo m (λl s=>wO W hi m (λh s=>fN v λa=>m9 (s a) λxs=>KG l (d8 h λj=>0<=j/\xs.length<big/\new (.lst (xs.take j.toNat)) Q s) λi=>KG h (0<=i/\xs.length<big/\new (.lst (xs.drop i.toNat)) Q s) λj=>0<=i/\0<=j/\xs.length<big/\new (.lst ((xs.take j.toNat).drop i.toNat)) Q s) X s) X s) X s
 | .qJ e,m,Q,X,s=>wE W e m (λv s=>fN v λa=>m9 (s a) λxs=>xs.length<big/\new (.lst xs.reverse) Q s) X s
 | .call f l,m,Q,X,s=>wEs W l m (λvs s=>W.call f vs Q X s) X s
 | .new c l,m,Q,X,s=>qc (W.ctor c) λf=>wEs W l m (λvs s=>∀a,s a=aP->W.call f (.ref a::vs) (λv s'=>v=.none/\Q (.ref a) s') bW (put s a (.inst c []))) X s
 | .bN e k l,m,Q,X,s=>wE W e m (λv s=>fN v λa=>E8 (s a) λc fs=>QW (lk fs k) (qc (W.mt c k) λf=>wEs W l m (λvs s=>W.call f (.ref a::vs) Q X s) X s)) X s
 | .bi b l,m,Q,X,s=>wEs W l m (λvs s=>bi b vs Q s) X s
 | .lm o e l,m,Q,X,s=>wE W e m (λv s=>fN v λa=>m9 (s a) λ_=>wEs W l m (λvs s=>QZ o (.ref a) vs Q s) X s) X s
 | .items e,m,Q,X,s=>wE W e m (λv s=>fN v λa=>KJ (s a) λes _=>rD es/\(es.map (·.1)).Nodup/\es.length<=3/\Bx (λps s=>new (.lst ((lJ ps).map (·.2))) Q s) es [] s) X s
 | .isTrue e,m,Q,X,s=>wE W e m (λv s=>match v with
  | .bool b=>Q (.bool b) s
  | .str k=>k<125/\Q (.bool false) s
  |_=>False) X s
 | .Bt e,m,Q,X,s=>wE W e m (λv s=>d8 v λ_=>Q (.bool false) s) X s
 | .gO f l aw b aG,m,Q,X,s=>wEs W l m (λvs s=>qc (Fe m aG) λc=>W.call f (vs++[.dz aw b c]) Q X s) X s
 | .kh x l,m,Q,X,s=>QX (lk m x) λaw b aG=>wEs W l m (λvs s=>W.nS aw b aG vs Q s) X s
 | .comp e t src ifs,m,Q,X,s=>vM W src m (wE W src m) (λvs G s=>
   gather (λv m K s=>jI t v m (λm'=>DE W ifs m' (λb s=>match b with
    |true=>wE W e m' (λx s=>K (some x) s) bW s
    |false=>K aP s) s) s) G m (λxs s=>xs.length<big/\new (.lst xs) Q s) vs [] s) X s
 | .oG _,_,_,_,_=>False
noncomputable def wEs(W:Wo):List E->Env->(List V->So->Prop)->(Nat->So->Prop)->So->Prop
 | [],_,Q,_,s=>Q [] s
 |e::r,m,Q,X,s=>wE W e m (λv s=>wEs W r m (λvs s=>Q (v::vs) s) X s) X s
noncomputable def wO(W:Wo):Option E->Env->(V->So->Prop)->(Nat->So->Prop)->So->Prop
 |aP,_,Q,_,s=>Q .none s
 |some e,m,Q,X,s=>wE W e m Q X s
noncomputable def wB(W:Wo):E->Env->((V->So->Prop)->(Nat->So->Prop)->So->Prop)->(Bool->So->Prop)->(Nat->So->Prop)->So->Prop
 | .not e,m,_,K,X,s=>wB W e m (wE W e m) (λt s=>K (!t) s) X s
 | .and a b,m,_,K,X,s=>wB W a m (wE W a m) (λt s=>match t with
  |true=>wB W b m (wE W b m) K X s
  |false=>K false s) X s
 | .or a b,m,_,K,X,s=>wB W a m (wE W a m) (λt s=>match t with
  |true=>K true s
  |false=>wB W b m (wE W b m) K X s) X s
 | .jG c a b,m,_,K,X,s=>wB W c m (wE W c m) (λt s=>match t with
  |true=>wB W a m (wE W a m) K X s
  |false=>wB W b m (wE W b m) K X s) X s
 | .isTrue _,_,_,_,_,_=>False
 |_,_,whole,K,X,s=>whole (λv s=>truth v λt=>K t s) X s
noncomputable def vM(W:Wo):E->Env->((V->So->Prop)->(Nat->So->Prop)->So->Prop)->(List V->(So->Prop)->So->Prop)->(Nat->So->Prop)->So->Prop
 | .oG l,m,_,K,X,s=>wEs W l m (λvs s=>Q0 vs λa b=>(-big<=a/\a<big/\-big<=b/\b<big)/\K (rE a b) (λ_=>True) s) X s
 |_,_,whole,K,X,s=>whole (vL K) X s
noncomputable def DE(W:Wo):List E->Env->(Bool->So->Prop)->So->Prop
 | [],_,K,s=>K true s
 |e::r,m,K,s=>wB W e m (wE W e m) (λt s=>match t with
  |true=>DE W r m K s
  |false=>K false s) bW s
end
def jH(test:Env->(Bool->So->Prop)->So->Prop)(body:Env->(Env->So->Prop)->(V->So->Prop)->So->Prop)(N:Env->So->Prop)(R:V->So->Prop)(m:Env)(s:So):Prop:=
 ∀P:Env->So->Prop,(∀m s,test m (λt s'=>match t with
  |true=>body m P R s'
  |false=>N m s') s->P m s)->P m s
def wT(W:Wo)(t:Tg)(v:V)(m:Env)(N:Env->So->Prop)(X:Nat->So->Prop)(s:So):Prop:=match t with
 | .v x=>N (up m x v) s
 | .attr e k=>wE W e m (λw s=>qP W.fw w k v (λs=>N m s) s) X s
 | .idx e i=>wE W e m (λw s=>wE W i m (λj s=>Fc w j v (λs=>N m s) s) X s) X s
 | .lu e lo hi=>wE W e m (λw s=>wE W lo m (λl s=>wE W hi m (λh s=>fN w λa=>d8 l λi=>d8 h λj=>fN v λb=>m9 (s a) λxs=>m9 (s b) λys=>a≠b/\0<=i/\i<=j/\j<=xs.length/\xs.length+ys.length<big/\N m (put s a (.lst (xs.take i.toNat++ys++xs.drop j.toNat)))) X s) X s) X s
def wTs(W:Wo):List Tg->List V->Env->(Env->So->Prop)->(Nat->So->Prop)->So->Prop
 | [],[],m,N,_,s=>N m s
 |t::ts,v::vs,m,N,X,s=>wT W t v m (λm s=>wTs W ts vs m N X s) X s
 |_,_,_,_,_,_=>False
mutual
noncomputable def wS(W:Wo):Sm->Env->(Env->So->Prop)->(V->So->Prop)->(Nat->So->Prop)->So->Prop
 | .stop,_,_,_,_,_=>False
 | .asg t e,m,N,_,X,s=>wE W e m (λv s=>wT W t v m N X s) X s
 | .ly ts e,m,N,_,X,s=>wE W e m (λv s=>fN v λa=>vH (s a) λxs=>xs.length=ts.length/\wTs W ts xs m N X s) X s
 | .ex e,m,N,_,X,s=>wE W e m (λ_ s=>N m s) X s
 | .iff c a b,m,N,R,X,s=>wB W c m (wE W c m) (λt s=>match t with
  |true=>wSs W a m N R X s
  |false=>wSs W b m N R X s) X s
 | .jH c b,m,N,R,_,s=>jH (λm K s=>wB W c m (wE W c m) K bW s) (λm P R s=>wSs W b m P R bW s) N R m s
 | .cD t src b,m,N,R,X,s=>vM W src m (wE W src m) (λvs G s=>loop (λv m K s=>jI t v m (λm'=>wSs W b m' K R bW s) s) G N vs m s) X s
 | .ret e,m,_,R,X,s=>wE W e m R X s
 | .raise k e,m,_,_,X,s=>wE W e m (λ_ s=>X k s) X s
 | .qK b _,m,N,R,_,s=>wSs W b m N R (λk s=>R (.str k) s) s
noncomputable def wSs(W:Wo):List Sm->Env->(Env->So->Prop)->(V->So->Prop)->(Nat->So->Prop)->So->Prop
 | [],m,N,_,_,s=>N m s
 |a::r,m,N,R,X,s=>wS W a m (λm s=>wSs W r m N R X s) R X s
end
def Q5{c fs}{p:Nat->List (Nat×V)->Prop}(h:o=some (.inst c fs))(k:p c fs):E8 o p:=by subst h;show k
def aqo{xs}{p:List V->Prop}(h:o=some (.lst xs))(k:p xs):m9 o p:=by subst h;show k
def aql{xs}{p:List V->Prop}(h:o=some (.tup xs))(k:p xs):vH o p:=by subst h;show k
def aoC{xs}{p q:List V->Prop}{r:List (Int×V)->Prop}(h:o=some (.lst xs))(k:p xs):E9 o p q r:=by subst h;show k
def aoO{xs}{p q:List V->Prop}{r:List (Int×V)->Prop}(h:o=some (.tup xs))(k:q xs):E9 o p q r:=by subst h;show k
def apv{es ep}{p q:List V->Prop}{r:List (Int×V)->Prop}(h:o=some (.cu es ep))(k:r es):E9 o p q r:=by subst h;show k
def anB{es ep}{p:List (Int×V)->Nat->Prop}{q:List V->Prop}(h:o=some (.cu es ep))(k:p es ep):Bw o p q:=by subst h;show k
def vN{xs}{p:List (Int×V)->Nat->Prop}{q:List V->Prop}(h:o=some (.lst xs))(k:q xs):Bw o p q:=by subst h;show k
def aqn{xs}{p:List V->Prop}(h:o=some (.lst xs))(k:p xs):wz o p:=by subst h;show k
def aqm{xs}{p:List V->Prop}(h:o=some (.tup xs))(k:p xs):wz o p:=by subst h;show k
def aqk{xs}{p:List V->Prop}(h:o=some (.lst xs))(k:p xs):Ip o p:=by subst h;show k
def aqj{xs}{p:List V->Prop}(h:o=some (.tup xs))(k:p xs):Ip o p:=by subst h;show k
def aqp{es ep}{p:List (Int×V)->Nat->Prop}(h:o=some (.cu es ep))(k:p es ep):KJ o p:=by subst h;show k
def By{α:Type}{o:Option α}{x}{p:α->Prop}(h:o=some x)(k:p x):qc o p:=by subst h;show k
def aet{b:Bool}{p:Prop}(h:b=true)(k:p):vJ b p:=by subst h;show k
def DF{m:Env}{x a:Nat}{p:V->Prop}(h:lk m x=some (.ref a))(k:p (.ref a)):(match lk m x with | some (.dz _ _ _)=>False | some v=>p v | aP=>False):=by rewrite [h];show k
def lA:List String:=["deck","script","many","buffer","dicts","states","at","turn","deed","ticks","tick","is_read_only","due","behind","undo","list","boundary","rows","own","is_done","state","is_modified","self","symbol","data","a","set_modified","props","word","put","remove","all","one","other","args-out-of-range","buffer-read-only","found","signal_here","size","number","name","text","room","markers","point","begv","zv","mark","is_live","codes_ticks","saved_ticks","listeners","overlays","locals","syntax","file","codes","before_markers","tree","length","items","start","end","plist","value","numbers","old","row","insert","delete","property","unmodified","renew_unmodified","cells","gap_start","gap_end","place","is_point_behind","inserted","root","dropped","is_on","point_before","noted_tick","low","high","begin","last","fresh","turned","listener","touch","pair","node","ahead","left","right","changed","first","wanted","property_changes","put_rows","old_length","total","parent","new","rows_between","elder","rest","above","son","moved","here","waiting","top","difference","is_at_boundary","widen_gap","move_gap","is_before","note_property","is_so","are_codes","note_state","lack"]
def f0:Fd:=⟨[1],[],[.asg '#' (.list [.lu (.bi .lst ['$']) none (some (.cI 60)),.cI 0]),.asg '%' (.call 2 ['#',.cI 9]),.ly ['&',.v 4,'('] (.tup [.call 3 ['%'],.comp .gN [6] (.oG ['%']) [],.list []]),.cD [7] (.oG [.ar .add (.cI 2) (.call 2 ['#',.cI 7])]) [.ly ['+',','] (.tup [.call 4 ['#','%'],.bN '&' 10 []]),.asg 3.11 (.cmp .eq (.call 2 ['#',.cI 6]) (.cI 5)),.ly ['/','0'] (.call 5 [.v 4,'+','%',3.11]),.ex (.bN (.attr 3.14 15) 16 []),.asg '4' (.bi .len [.attr (.attr 3.14 15) 17]),.iff (.or (.cmp .ne (.call 6 ['&','+']) '/') (.cmp .ne (.call 7 ['&']) (.comp (.items '5') [18] '0' []))) [.ret (.cB false)] [],.asg '6' (.isTrue '/'),.iff (.or (.cmp .ne (.cmp .gt (.bN '&' 10 []) ',') '6') (.cmp .ne (.cmp .gt (.bi .len [.attr (.attr 3.14 15) 17]) '4') '6')) [.ret (.cB false)] [],.ly ['(',.v 4] (.tup [.jG '6' (.ar .cat '(' (.list [.v 4])) '(','0'])],.asg 3.11 (.cB false),.ex (.bN (.attr 3.14 15) 16 []),.asg '4' (.bi .lst [.attr (.attr 3.14 15) 17]),.asg ')' (.bi .len ['4']),.cD [20] (.qJ '(') [.asg ')' (.call 8 ['&','4',')']),.iff (.cmp .ne (.call 7 ['&']) (.comp (.items '5') [18] '7' [])) [.ret (.cB false)] []],.ret (.and (.not (.bN '&' 21 [])) (.cmp .eq (.call 7 ['&']) (.ar .rep (.list [.list []]) '%')))]⟩
def f1:Fd:=⟨[22,23,24],[],[.asg 22.23 ':',.asg 22.24 ';']⟩
def f2:Fd:=⟨[0,2],[],[.asg (.idx '#' (.cI 1)) (.ar .add (.idx '#' (.cI 1)) (.cI 1)),.iff (.cmp .le (.idx '#' (.cI 1)) (.bi .len [.idx '#' (.cI 0)])) [.ret (.ar .mod (.idx (.idx '#' (.cI 0)) (.ar .sub (.idx '#' (.cI 1)) (.cI 1))) '%')] [],.ret (.ar .mod (.ar .fdiv (.ar .add (.ar .add (.ar .add (.ar .mul (.ar .mul (.idx '#' (.cI 1)) (.idx '#' (.cI 1))) (.cI 31)) (.ar .mul (.cI 17) (.idx '#' (.cI 1)))) (.ar .mul (.cI 5) (.bi .len [.idx '#' (.cI 0)]))) (.cI 7)) (.cI 3)) '%')]⟩
def f3:Fd:=⟨[2],[],[.asg '&' (.new 7 [.cI 1,.cS 25]),.ex (.call 10 ['&',.comp (.ar .add (.cI 97) ')') [6] (.oG ['%']) []]),.ex (.bN '&' 26 [.cB false]),.ly [3.27,3.14] (.tup [.new 3 ['%'],.new 10 []]),.ret '&']⟩
def f4:Fd:=⟨[0,2],[],[.asg '?' (.call 13 ['#',.list [.cS 29,.cS 29,.cS 30,.cS 31]]),.ly ['C','D'] (.tup [.call 2 ['#',.ar .add '%' (.cI 3)],.call 2 ['#',.ar .add '%' (.cI 2)]]),.ret (.tup ['?','C',.ar .add (.cI 1) 'D',.tup [.call 2 ['#',.cI 3],.call 2 ['#',.cI 3]],.cmp .eq (.call 2 ['#',.cI 2]) (.cI 1)])]⟩
def f5:Fd:=⟨[4,8,2,11],[],[.iff (.or (.cmp .lt (.bi .min [.idx '+' (.cI 1),.idx '+' (.cI 2)]) (.cI 1)) (.cmp .gt (.bi .max [.idx '+' (.cI 1),.idx '+' (.cI 2)]) (.ar .add '%' (.cI 1)))) [.ret (.tup [.cS 34,.v 4])] [],.iff (.and '.' (.cmp .eq (.idx '+' (.cI 0)) (.cS 31))) [.ret (.tup [.cS 35,.v 4])] [],.asg 'G' (.call 14 [.v 4,'+']),.iff (.cmp .eq 'G' (.v 4)) [.ret (.tup [.cB false,.v 4])] [],.ret (.jG '.' (.tup [.cS 35,.v 4]) (.tup [.cB true,'G']))]⟩
def f6:Fd:=⟨[3,8],[],[.qK [.iff (.cmp .eq (.idx '+' (.cI 0)) (.cS 29)) [.ret (.call 15 ['&',.idx '+' (.cI 1),.idx '+' (.cI 2),.idx (.idx '+' (.cI 3)) (.cI 0),.idx (.idx '+' (.cI 3)) (.cI 1)])] [],.iff (.cmp .eq (.idx '+' (.cI 0)) (.cS 30)) [.ret (.call 16 ['&',.idx '+' (.cI 1),.idx '+' (.cI 2),.bi .lst [.idx '+' (.cI 3)]])] [],.ret (.call 17 ['&',.idx '+' (.cI 1),.idx '+' (.cI 2),.jG (.idx '+' (.cI 4)) (.list [.idx '+' (.cI 3)]) (.list [])])] 37]⟩
def f7:Fd:=⟨[3],[],[.ret (.comp (.bi .sorted [.call 18 [3.27,')']]) [6] (.oG [.bN '&' 38 []]) [])]⟩
def f8:Fd:=⟨[3,17,6],[],[.asg ')' (.call 19 ['4',')']),.jH (.and (.cmp .gt ')' (.cI 0)) (.cmp .ne (.idx '4' (.ar .sub ')' (.cI 1))) (.glob 884))) [.asg ')' (.call 20 ['&','4',')'])],.ret ')']⟩
def f9:Fd:=⟨[22,39,40,42],[.int 8],[.asg 22.39 'J',.asg 22.40 'K',.asg 22.41 (.new 4 [.list [],'M']),.asg 22.43 (.new 5 []),.asg 22.44 (.cI 1),.asg 22.45 (.cI 1),.asg 22.46 (.cI 1),.asg 22.47 .cN,.asg 22.48 (.cB true),.asg 22.11 (.cB false),.asg 22.9 (.cI 1),.asg 22.49 (.cI 1),.asg 22.50 (.cI 1),.asg 22.51 (.list []),.asg 22.14 .cN,.asg 22.27 .cN,.asg 22.52 .cN,.asg 22.53 .cN,.asg 22.54 .cN,.asg 22.55 .cN]⟩
def rF:Fd:=⟨[3,56,57],[.bool false],[.ex (.call 23 ['&',3.44,'[',.v 57,.cB true])]⟩
def vO:Fd:=⟨[22,59],[],[.asg 22.58 (.new 2 ['^',.list []])]⟩
def Ag:Fd:=⟨[22],[],[.asg 22.15 (.new 8 [])]⟩
def Q6:Fd:=⟨[0,60],[],[.ret (.idx '_' (.call 2 ['#',.bi .len ['_']]))]⟩
def Q7:Fd:=⟨[4,8],[],[.asg 'G' (.comp (.bi .dict ['5']) [18] (.v 4) []),.cD [6] (.oG [.ar .sub (.bi .min [.idx '+' (.cI 1),.idx '+' (.cI 2)]) (.cI 1),.ar .sub (.bi .max [.idx '+' (.cI 1),.idx '+' (.cI 2)]) (.cI 1)]) [.iff (.cmp .eq (.idx '+' (.cI 0)) (.cS 29)) [.asg (.idx (.idx 'G' ')') (.idx (.idx '+' (.cI 3)) (.cI 0))) (.idx (.idx '+' (.cI 3)) (.cI 1))] [.iff (.cmp .eq (.idx '+' (.cI 0)) (.cS 30)) [.asg (.idx 'G' ')') (.bi .dict [.comp (.tup ['J',.idx (.idx 'G' ')') 'J']) [39] (.idx 'G' ')') [.cmp .wq 'J' (.idx '+' (.cI 3))]])] [.asg (.idx 'G' ')') (.jG (.idx '+' (.cI 4)) (.bi .dict [.list [.idx '+' (.cI 3)]]) .gN)]]],.ret 'G']⟩
def Q8:Fd:=⟨[3,61,62,39,64],[],[.ret (.gO 26 ['&','`','a'] [63] (.call 27 ['b','J','c']) [39,64])]⟩
def Q9:Fd:=⟨[3,61,62,65],[],[.ret (.gO 26 ['&','`','a'] [63] (.call 28 ['b','d']) [65])]⟩
def Rc:Fd:=⟨[3,61,62,63],[],[.ex (.call 29 ['&','`','a']),.ex (.call 30 ['&']),.ret (.gO 26 ['&','`','a'] [66] (.bi .lst ['b']) [63])]⟩
def Rf:Fd:=⟨[27,6],[],[.iff (.cmp .ge ')' (.call 31 [27.58])) [.ret (.list [])] [],.ret (.attr (.idx (.call 32 [27.58,')']) (.cI 0)) 63)]⟩
def Rg:Fd:=⟨[17,6],[],[.jH (.and (.cmp .gt ')' (.cI 0)) (.cmp .eq (.idx '4' (.ar .sub ')' (.cI 1))) (.glob 884))) [.asg ')' (.ar .sub ')' (.cI 1))],.ret ')']⟩
def KL:Fd:=⟨[3,17,6],[],[.asg 'f' (.idx '4' (.ar .sub ')' (.cI 1))),.asg ')' (.ar .sub ')' (.cI 1)),.iff (.cmp .eq (.idx 'f' (.cI 0)) (.cS 68)) [.stop] [.iff (.cmp .eq (.idx 'f' (.cI 0)) (.cS 69)) [.stop] [.iff (.cmp .eq (.idx 'f' (.cI 0)) (.cS 44)) [.stop] [.iff (.cmp .eq (.idx 'f' (.cI 0)) (.cS 70)) [.ex (.call 33 ['&',.idx 'f' (.cI 1),.idx 'f' (.cI 2)]),.ex (.call 34 ['&',.idx 'f' (.cI 1),.idx 'f' (.cI 2),.idx 'f' (.cI 3),.idx 'f' (.cI 4)])] [.iff (.and (.cmp .eq (.idx 'f' (.cI 0)) (.cS 71)) (.cmp .eq (.idx 'f' (.cI 1)) 3.50)) [.ex (.bN '&' 26 [.cB false]),.iff (.cmp .cM 3.14 .cN) [.ex (.bN (.attr 3.14 15) 72 [.idx 'f' (.cI 1),3.50])] []] []]]]],.ret ')']⟩
def Rh:Fd:=⟨[22,56,42],[],[.asg 22.42 'M',.asg 22.73 (.ar .cat (.bi .lst ['[']) (.ar .rep (.list [.cI 0]) 'M')),.asg 22.74 (.bi .len ['[']),.asg 22.75 (.ar .add (.bi .len ['[']) 'M')]⟩
def Ri:Fd:=⟨[22],[],[.asg 22.17 .gN]⟩
def Bz:Fd:=⟨[3,76,56,57,77],[],[.ex (.call 35 ['&']),.ex (.call 36 ['&','o','o']),.iff (.cmp .eq (.bi .len ['[']) (.cI 0)) [.ret .cN] [],.ex (.call 37 ['&','o','o']),.ex (.call 38 ['&','o','[']),.iff 'p' [.asg 3.44 (.ar .add 'o' (.bi .len ['[']))] [],.ex (.bN 3.43 78 ['o',.ar .add 'o' (.bi .len ['[']),.v 57]),.ex (.call 39 ['&','o',.bi .len ['['],.v 57]),.ex (.call 40 ['&','o',.ar .add 'o' (.bi .len ['[']),.cI 0])]⟩
def Rj:Fd:=⟨[22,59,63],[],[.asg 22.79 (.jG (.cmp .gt '^' (.cI 0)) (.new 1 ['^','b']) .cN)]⟩
def Rk:Fd:=⟨[22],[],[.asg 22.17 (.list []),.asg 22.80 (.cI 0),.asg 22.81 (.cB true),.asg 22.82 .cN,.asg 22.83 .cN]⟩
def vP:Fd:=⟨[3,61,62,89],[],[.ly ['w','x'] (.call 29 ['&','`','a']),.asg '4' (.list []),.cD [86,87,63] (.call 42 [3.27,.ar .sub 'w' (.cI 1),.ar .sub 'x' (.cI 1)]) [.asg '{' (.kh 89 ['b']),.iff (.cmp .gt (.bi .len [.call 43 ['b','{']]) (.cI 0)) [.ex (.lm .append '4' [.tup ['y','z','b','{']])] []],.iff (.cmp .eq (.bi .len ['4']) (.cI 0)) [.ret (.cB false)] [],.ex (.call 30 ['&']),.cD [90] (.bi .lst [3.51]) [.stop],.cD [86,87,63,88] '4' [.ex (.call 44 ['&','y','z','b','{'])],.ex (.call 45 [3.27,.comp (.tup ['y','z','{']) [86,87,63,88] '4' []]),.ex (.bN '&' 91 [.cB false]),.cD [90] (.bi .lst [3.51]) [.stop],.ret (.cB true)]⟩
def Rl:Fd:=⟨[63,39,64],[],[.asg ')' (.call 46 ['b','J']),.iff (.cmp .lt ')' (.cI 0)) [.ret (.ar .cat 'b' (.list [.tup ['J','c']]))] [],.ret (.ar .cat (.ar .cat (.lu 'b' none (some ')')) (.list [.tup ['J','c']])) (.lu 'b' (some (.ar .add ')' (.cI 1))) none))]⟩
def Rm:Fd:=⟨[63,65],[],[.ret (.comp '§' [92] 'b' [.cmp .wq (.idx '§' (.cI 0)) 'd'])]⟩
def Rn:Fd:=⟨[3,61,62],[],[.ly ['w','x'] (.tup [.bi .min ['`','a'],.bi .max ['`','a']]),.iff (.or (.cmp .lt 'w' 3.45) (.cmp .gt 'x' 3.46)) [.raise 34 (.list ['`','a'])] [],.ret (.tup ['w','x'])]⟩
def Ro:Fd:=⟨[3],[],[.iff 3.11 [.raise 35 (.list [3.40])] []]⟩
def Rp:Fd:=⟨[58],[],[.ret (.call 47 [58.79])]⟩
def Rq:Fd:=⟨[58,6],[],[.asg '¨' 58.79,.asg 'y' (.cI 0),.jH (.cB true) [.asg '©' (.call 47 [93.95]),.asg '5' (.call 48 ['¨']),.iff (.cmp .lt ')' (.ar .add 'y' '©')) [.asg '¨' 93.95] [.iff (.cmp .lt ')' (.ar .add (.ar .add 'y' '©') '5')) [.ret (.tup ['¨',.ar .add 'y' '©'])] [.asg 'y' (.ar .add (.ar .add 'y' '©') '5'),.asg '¨' 93.96]]]]⟩
def Rr:Fd:=⟨[3,61,62],[],[.iff (.or (.cmp .lt '`' 3.45) (.cmp .gt 'a' 3.46)) [.stop] []]⟩
def rG:Fd:=⟨[3,61,62,39,99],[],[.ly ['w','x'] (.call 36 ['&','`','a']),.ex (.call 35 ['&']),.iff (.cmp .is 3.27 .cN) [.stop] [],.asg '¬' (.list []),.cD [98,87,63] (.call 49 ['&','w','x']) [.iff (.not (.call 50 ['®','b','J'])) [.asg '{' (.jG (.cmp .is '®' .cN) (.call 51 ['b','J']) (.call 27 ['b','J',.idx '®' (.cI 0)])),.ex (.lm .append '¬' [.tup ['­','z','b','{']])] []],.cD [98,87,63,88] '¬' [.iff (.cmp .cM 3.14 .cN) [.ex (.bN 3.14 100 ['&','­','z','J',.call 52 ['b','J']])] []],.iff (.cmp .gt (.bi .len ['¬']) (.cI 0)) [.ex (.bN 3.27 101 [.comp (.tup [.ar .sub '­' (.cI 1),.ar .sub 'z' (.cI 1),'{']) [98,87,63,88] '¬' []]),.ex (.bN '&' 91 [.cB false])] [],.ret (.cmp .gt (.bi .len ['¬']) (.cI 0))]⟩
def KN:Fd:=⟨[3],[],[.iff 3.11 [.stop] []]⟩
def KQ:Fd:=⟨[3,61,62],[],[.ly ['w','x'] (.tup [.bi .min ['`','a'],.bi .max ['`','a']]),.iff (.or (.cmp .lt 'w' 3.45) (.cmp .gt 'x' 3.46)) [.stop] [],.ret (.tup ['w','x'])]⟩
def Rt:Fd:=⟨[3,61,62],[],[.cD [90] (.bi .lst [3.51]) [.stop]]⟩
def Ru:Fd:=⟨[3,76,56],[],[.iff (.cmp .cM 3.14 .cN) [.stop] [],.ex (.bN 3.41 68 [.ar .sub 'o' (.cI 1),'[']),.asg 3.46 (.ar .add 3.46 (.bi .len ['['])),.iff (.cmp .gt 3.44 'o') [.stop] []]⟩
def Rv:Fd:=⟨[3,76,2,57],[],[.iff (.cmp .cM 3.27 .cN) [.stop] [],.iff (.cmp .cM 3.52 .cN) [.stop] []]⟩
def Rw:Fd:=⟨[3,61,62,102],[],[.ex (.bN '&' 91 [.cB true]),.cD [90] (.bi .lst [3.51]) [.stop]]⟩
def Rx:Fd:=⟨[22,103,63],[],[.asg 22.103 '²',.asg 22.63 'b',.asg 22.95 .cN,.asg 22.96 .cN,.asg 22.104 .cN]⟩
def Ry:Fd:=⟨[27,86,62],[],[.asg 'G' (.list []),.iff (.cmp .ge 'y' 'a') [.ret 'G'] [],.ly ['¨','­'] (.call 32 [27.58,'y']),.jH (.and (.cmp .cM '¨' .cN) (.cmp .lt '­' 'a')) [.asg 'z' (.ar .add '­' (.call 48 ['¨'])),.ex (.lm .append 'G' [.tup [.bi .max ['­','y'],.bi .min ['z','a'],93.63]]),.asg '­' 'z',.asg '¨' (.call 53 ['¨'])],.ret 'G']⟩
def Rz:Fd:=⟨[32,33],[],[.asg 'G' (.list []),.cD [39,64] 'C' [.iff (.not (.call 54 ['D','J','c'])) [.ex (.lm .append 'G' ['J'])] []],.cD [39,64] 'D' [.iff (.cmp .lt (.call 46 ['C','J']) (.cI 0)) [.ex (.lm .append 'G' ['J'])] []],.ret (.bi .sorted ['G'])]⟩
def RA:Fd:=⟨[3,86,62,66,105],[],[.iff (.cmp .is 3.14 .cN) [.stop] [],.cD [39] (.call 43 ['e','´']) [.ex (.bN 3.14 100 ['&',.ar .add 'y' (.cI 1),.ar .add 'a' (.cI 1),'J',.call 52 ['e','J']])]]⟩
def RB:Fd:=⟨[27,17],[],[.asg '¬' (.cB false),.cD [86,62,63] '4' [.iff (.call 55 ['>','y','a','b']) [.asg '¬' (.cB true)] []],.ret '¬']⟩
def RC:Fd:=⟨[63,39],[],[.cD [6] (.oG [.bi .len ['b']]) [.iff (.cmp .eq (.idx (.idx 'b' ')') (.cI 0)) 'J') [.ret ')'] []],.ret (.cI (-1))]⟩
def RD:Fd:=⟨[93],[],[.ret (.jG (.cmp .is '¨' .cN) (.cI 0) 93.103)]⟩
def RG:Fd:=⟨[93],[],[.ret (.ar .sub (.ar .sub 93.103 (.call 47 [93.95])) (.call 47 [93.96]))]⟩
def RH:Fd:=⟨[3,61,62],[],[.iff (.cmp .is 3.27 .cN) [.stop] [],.ret (.comp (.tup [.ar .add 'w' (.cI 1),.ar .add 'x' (.cI 1),'b']) [84,85,63] (.bN 3.27 106 [.ar .sub '`' (.cI 1),.ar .sub 'a' (.cI 1)]) [])]⟩
def KR:Fd:=⟨[107,63,39],[],[.asg 'G' (.call 52 ['b','J']),.iff (.or (.cmp .is 'G' .cN) (.cmp .is '¶' .cN)) [.ret (.and (.cmp .is 'G' .cN) (.cmp .is '¶' .cN))] [],.ret (.call 56 [.idx 'G' (.cI 0),.idx '¶' (.cI 0)])]⟩
def RJ:Fd:=⟨[63,39],[],[.ret (.comp '§' [92] 'b' [.cmp .ne (.idx '§' (.cI 0)) 'J'])]⟩
def RK:Fd:=⟨[63,39],[],[.asg ')' (.call 46 ['b','J']),.ret (.jG (.cmp .ge ')' (.cI 0)) (.tup [.idx (.idx 'b' ')') (.cI 1)]) .cN)]⟩
def RM:Fd:=⟨[93],[],[.iff (.cmp .cM 93.96 .cN) [.ret (.call 57 [93.96])] [],.jH (.and (.cmp .cM 93.104 .cN) (.cmp .is (.attr 93.104 96) '¨')) [.asg '¨' 93.104],.ret 93.104]⟩
def RN:Fd:=⟨[63,39,64],[],[.asg ')' (.call 46 ['b','J']),.ret (.and (.cmp .ge ')' (.cI 0)) (.call 56 [.idx (.idx 'b' ')') (.cI 1),'c']))]⟩
def RP:Fd:=⟨[27,86,62,63],[],[.asg '¬' (.cB false),.cD [93] (.call 58 ['>','y','a']) [.iff (.not (.call 59 ['b',93.63])) [.asg 93.63 (.bi .lst ['b']),.asg '¬' (.cB true)] []],.ex (.call 60 ['>','y','a']),.ret '¬']⟩
def f56:Fd:=⟨[32,33],[],[.iff (.or (.Bt 'C') (.Bt 'D')) [.stop] [],.ret (.cmp .eq 'C' 'D')]⟩
def RQ:Fd:=⟨[93],[],[.jH (.cmp .cM 93.95 .cN) [.asg '¨' 93.95],.ret '¨']⟩
def RT:Fd:=⟨[27,86,62],[],[.iff (.cmp .ge 'y' 'a') [.ret (.list [])] [],.ex (.call 61 [27.58,'y']),.ex (.call 61 [27.58,'a']),.asg '¨' (.idx (.call 32 [27.58,'y']) (.cI 0)),.asg 'G' (.list []),.asg 'ª' (.ar .sub 'a' 'y'),.jH (.cmp .gt 'ª' (.cI 0)) [.ex (.lm .append 'G' ['¨']),.asg 'ª' (.ar .sub 'ª' (.call 48 ['¨'])),.asg '¨' (.call 53 ['¨'])],.ret 'G']⟩
def RV:Fd:=⟨[32,33],[],[.iff (.cmp .ne (.bi .len ['C']) (.bi .len ['D'])) [.ret (.cB false)] [],.cD [39,64] 'C' [.iff (.not (.call 54 ['D','J','c'])) [.ret (.cB false)] []],.ret (.cB true)]⟩
def RW:Fd:=⟨[27,86,62],[],[.asg ')' 'y',.jH (.and (.cmp .le ')' 'a') (.cmp .lt ')' (.call 31 [27.58]))) [.ly ['¨','­'] (.call 32 [27.58,')']),.asg 'z' (.ar .add '­' (.call 48 ['¨'])),.ex (.call 62 ['>','­']),.asg ')' 'z'],.ex (.call 62 ['>','a'])]⟩
def RX:Fd:=⟨[58,6],[],[.iff (.not (.lj .lt .lt (.cI 0) ')' (.call 31 [']']))) [.ret .cN] [],.ly ['¨','y'] (.call 32 [']',')']),.iff (.cmp .eq 'y' ')') [.ret .cN] [],.asg '·' (.ar .sub (.call 48 ['¨']) (.ar .sub ')' 'y')),.ex (.call 63 ['¨',.ar .sub (.cI 0) '·']),.ex (.call 64 [']','¨',.new 1 ['·',93.63]])]⟩
def RZ:Fd:=⟨[27,6],[],[.iff (.not (.lj .lt .lt (.cI 0) ')' (.call 31 [27.58]))) [.ret .cN] [],.ly ['¨','y'] (.call 32 [27.58,')']),.iff (.cmp .ne 'y' ')') [.ret .cN] [],.asg '©' (.call 65 ['¨']),.iff (.call 59 [94.63,93.63]) [.asg '%' (.call 48 ['¨']),.ex (.call 66 [27.58,'¨']),.ex (.call 63 ['©','%']),.ex (.call 67 [27.58,'©'])] []]⟩
def KS:Fd:=⟨[93,2],[],[.jH (.cmp .cM '¨' .cN) [.asg 93.103 (.ar .add 93.103 '%'),.asg '¨' 93.104]]⟩
def R0:Fd:=⟨[58,93,88],[],[.iff (.cmp .is 93.96 .cN) [.ex (.call 68 ['¨','{'])] [.asg '¨' (.call 57 [93.96]),.ex (.call 69 ['¨','{'])],.ex (.call 63 [88.104,88.103]),.ex (.call 67 [']',88.104])]⟩
def R3:Fd:=⟨[93],[],[.iff (.cmp .cM 93.95 .cN) [.ret (.call 70 [93.95])] [],.jH (.and (.cmp .cM 93.104 .cN) (.cmp .is (.attr 93.104 95) '¨')) [.asg '¨' 93.104],.ret 93.104]⟩
def KV:Fd:=⟨[58,93],[],[.ex (.call 63 [93.104,.ar .sub (.cI 0) (.call 48 ['¨'])]),.asg '¸' 93.104,.iff (.or (.cmp .is 93.95 .cN) (.cmp .is 93.96 .cN)) [.asg '¹' (.jG (.cmp .is 93.96 .cN) 93.95 93.96),.ex (.call 71 [']','¨','¹']),.ex (.call 67 [']','¸']),.ret .cN] [],.asg 'º' 93.95,.asg '»' (.call 57 [93.96]),.ex (.call 71 [']','¨',93.96]),.ex (.call 69 ['»','º']),.jH (.cmp .cM '»' '¸') [.asg 112.103 (.ar .add 112.103 111.103),.asg '»' 112.104],.ex (.call 67 [']',111.104])]⟩
def rH:Fd:=⟨[58,93],[],[.jH (.cmp .cM '¨' .cN) [.asg '¨' (.attr (.call 72 [']','¨']) 104)]]⟩
def KW:Fd:=⟨[93,110],[],[.asg 93.96 '¹',.iff (.cmp .cM '¹' .cN) [.asg 110.104 '¨'] []]⟩
def KX:Fd:=⟨[93,110],[],[.asg 93.95 '¹',.iff (.cmp .cM '¹' .cN) [.asg 110.104 '¨'] []]⟩
def R5:Fd:=⟨[93],[],[.jH (.cmp .cM 93.96 .cN) [.asg '¨' 93.96],.ret '¨']⟩
def KY:Fd:=⟨[58,93,33],[],[.asg '³' 93.104,.iff (.cmp .cM 'D' .cN) [.asg 33.104 '³'] [],.iff (.cmp .is '³' .cN) [.asg 58.79 'D'] [.iff (.cmp .is 104.95 '¨') [.asg 104.95 'D'] [.asg 104.96 'D']]]⟩
def R6:Fd:=⟨[58,93],[],[.asg '¼' (.list ['¨']),.asg '½' '¨',.jH (.cmp .gt (.bi .len ['¼']) (.cI 0)) [.asg '»' (.lm .pop '¼' []),.iff (.call 73 ['»']) [.asg '¹' (.call 74 [']','»']),.asg '½' (.jG (.cmp .is '»' '½') '¹' '½'),.ex (.lm .extend '¼' [.list ['¹','»']])] [.iff (.call 75 ['»']) [.asg '¹' (.call 76 [']','»']),.asg '½' (.jG (.cmp .is '»' '½') '¹' '½'),.ex (.lm .extend '¼' [.list ['¹','»']])] []]],.ret '½']⟩
def R7:Fd:=⟨[93],[],[.asg '¹' 93.95,.asg '¾' (.ar .sub (.call 47 ['¹']) (.call 47 [93.96])),.iff (.cmp .le '¾' (.cI 0)) [.ret (.cB false)] [],.ret (.cmp .lt (.bi .abs [.ar .sub (.call 47 [110.95]) (.ar .add (.ar .sub 93.103 110.103) (.call 47 [110.96]))]) '¾')]⟩
def R8:Fd:=⟨[58,93],[],[.asg '¹' 93.95,.ex (.call 71 [']','¨','¹']),.asg '²' 93.103,.asg 93.103 (.ar .add (.ar .sub 93.103 110.103) (.call 47 [110.96])),.ex (.call 69 ['¨',110.96]),.ex (.call 68 ['¹','¨']),.asg 110.103 '²',.ret '¹']⟩
def R9:Fd:=⟨[93],[],[.asg '¹' 93.96,.asg '¾' (.ar .sub (.call 47 ['¹']) (.call 47 [93.95])),.iff (.cmp .le '¾' (.cI 0)) [.ret (.cB false)] [],.ret (.cmp .lt (.bi .abs [.ar .sub (.call 47 [110.96]) (.ar .add (.ar .sub 93.103 110.103) (.call 47 [110.95]))]) '¾')]⟩
def Sb:Fd:=⟨[58,93],[],[.asg '¹' 93.96,.ex (.call 71 [']','¨','¹']),.asg '²' 93.103,.asg 93.103 (.ar .add (.ar .sub 93.103 110.103) (.call 47 [110.95])),.ex (.call 68 ['¨',110.95]),.ex (.call 69 ['¹','¨']),.asg 110.103 '²',.ret '¹']⟩
def Sd:Fd:=⟨[22],[],[.iff (.not (.bN '9' 116 [])) [.ex (.lm .append 22.17 [.glob 884])] []]⟩
def Sf:Fd:=⟨[22,6,56],[],[.ex (.bN '9' 117 [.bi .len ['[']]),.ex (.bN '9' 118 [')']),.asg (.lu 22.73 ')' (.ar .add ')' (.bi .len ['[']))) '[',.asg 22.74 (.ar .add ')' (.bi .len ['[']))]⟩
def DG:Fd:=⟨[22,61,62,119],[],[.cD [39] (.bN '9' 65 []) [.stop]]⟩
def Sg:Fd:=⟨[22],[],[.ret (.cmp .lt 22.50 22.9)]⟩
def KZ:Fd:=⟨[22,3,61,62,39,107],[],[.ex (.bN 22.15 120 ['`','a','J','¶',.bN '&' 21 [],3.50])]⟩
def Si:Fd:=⟨[22,17],[],[.ret (.call 45 ['9','4'])]⟩
def Sj:Fd:=⟨[22,107,88],[],[.asg '5' (.tup [.cS 71,'¶']),.asg 22.17 (.comp (.jG (.cmp .eq 'f' '5') (.tup [.cS 71,'{']) 'f') [67] 22.17 [])]⟩
def Sl:Fd:=⟨[22,86,62],[],[.ret (.call 42 ['9','y','a'])]⟩
def K0:Fd:=⟨[22,121],[],[.iff (.not 'Ä') [.asg 22.50 22.9] [.iff (.not (.bN '9' 21 [])) [.asg 22.9 (.ar .add 22.9 (.cI 1))] []]]⟩
def Sn:Fd:=⟨[22],[],[.ret (.ar .add (.ar .sub (.bi .len [22.73]) 22.75) 22.74)]⟩
def Sp:Fd:=⟨[22],[],[.ret (.bN 22.41 38 [])]⟩
def Sq:Fd:=⟨[22],[],[.ret 22.9]⟩
def Ah:Fd:=⟨[22,122],[],[.asg 22.9 (.ar .add 22.9 (.cI 1)),.iff 'Å' [.asg 22.49 22.9] []]⟩
def Sr:Fd:=⟨[22],[],[.ret (.or (.cmp .eq (.bi .len [22.17]) (.cI 0)) (.cmp .eq (.idx 22.17 (.cI (-1))) (.glob 884)))]⟩
def Ss:Fd:=⟨[22,6],[],[.iff (.cmp .lt ')' 22.74) [.asg 'º' (.lu 22.73 (some ')') (some 22.74)),.asg (.lu 22.73 (.ar .sub 22.75 (.bi .len ['º'])) 22.75) 'º',.asg 22.75 (.ar .sub 22.75 (.bi .len ['º']))] [.asg 'º' (.lu 22.73 (some 22.75) (some (.ar .sub (.ar .add 22.75 ')') 22.74))),.asg (.lu 22.73 22.74 (.ar .add 22.74 (.bi .len ['º']))) 'º',.asg 22.75 (.ar .add 22.75 (.bi .len ['º']))],.asg 22.74 ')']⟩
def K1:Fd:=⟨[22,61,62,39,107,21,10],[],[.iff (.and 22.81 (.cmp .lt '`' 'a')) [.ex (.bN '9' 123 ['8','-']),.ex (.lm .append 22.17 [.tup [.cS 70,'`','a','J','¶']])] []]⟩
def Sv:Fd:=⟨[22],[],[.ret (.bi .sorted [22.17])]⟩
def K3:Fd:=⟨[22,99],[],[.asg 'Ç' (.ar .sub '®' (.ar .sub 22.75 22.74)),.iff (.cmp .gt 'Ç' (.cI 0)) [.asg (.lu 22.73 22.75 22.75) (.ar .rep (.list [.cI 0]) (.ar .add 'Ç' 22.42)),.asg 22.75 (.ar .add (.ar .add 22.75 'Ç') 22.42)] []]⟩
def Sw:Fd:=⟨[22,21,10],[],[.iff (.and (.not '8') (.cmp .ne '-' 22.83)) [.ex (.lm .append 22.17 [.tup [.cS 71,'-']]),.asg 22.83 '-'] []]⟩
def fns:List Fd:=[f0,f1,f2,f3,f4,f5,f6,f7,f8,f9,rF,vO,Ag,Q6,Q7,Q8,Q9,Rc,Rf,Rg,KL,Rh,Ri,Bz,Rj,Rk,vP,Rl,Rm,Rn,Ro,Rp,Rq,Rr,rG,KN,KQ,Rt,Ru,Rv,Rw,Rx,Ry,Rz,RA,RB,RC,RD,RG,RH,KR,RJ,RK,RM,RN,RP,f56,RQ,RT,RV,RW,RX,RZ,KS,R0,R3,KV,rH,KW,KX,R5,KY,R6,R7,R8,R9,Sb,Sd,Sf,DG,Sg,KZ,Si,Sj,Sl,K0,Sn,Sp,Sq,Ah,Sr,Ss,K1,Sv,K3,Sw]
end Tactic
namespace Tactic
open PySem Lh.Tactic
structure FR where
 a:Nat
 cd:Nat
 nm:String
 ql:String
 st:Stmt
 dV:Value
 pm:Value
def fT:List FR:=[
 ⟨1145,1144,"law","law",(st 111),N,iz⟩,⟨35,34,"__init__","LispSignal.__init__",(su 2 0),N,mn⟩,⟨1097,1096,"_law_draw","_law_draw",(st 103),N,iz⟩,⟨1109,1108,"_law_buffer","_law_buffer",(st 105),N,iz⟩,⟨1140,1139,"_law_deed","_law_deed",(st 110),N,iz⟩,⟨1133,1132,"_law_due","_law_due",(st 109),N,iz⟩,⟨1121,1120,"_law_done","_law_done",(st 107),N,iz⟩,⟨1114,1113,"_law_shown","_law_shown",(st 106),N,iz⟩,⟨1029,1028,"undo_group","undo_group",(st 97),N,uE⟩,⟨694,693,"__init__","Buffer.__init__",(su 68 0),(R 687),jn⟩,⟨854,853,"insert","insert",(st 79),(R 847),kU⟩,⟨324,323,"__init__","TextProps.__init__",(su 41 0),N,fM⟩,⟨1064,1063,"__init__","Recording.__init__",(su 101 0),N,ml⟩,⟨1104,1103,"_law_pick","_law_pick",(st 104),N,iz⟩,⟨1126,1125,"_law_turned","_law_turned",(st 108),N,iz⟩,⟨469,468,"put","put",(st 58),N,mj⟩,⟨483,482,"remove","remove",(st 60),N,mj⟩,⟨476,475,"put_all","put_all",(st 59),N,mj⟩,⟨380,379,"properties_at","properties_at",(st 42),N,fM⟩,⟨1022,1021,"above_boundaries","above_boundaries",(st 96),N,uE⟩,⟨1015,1014,"undo_row","undo_row",(st 95),N,uE⟩,⟨497,496,"__init__","GapText.__init__",(su 62 0),N,kR⟩,⟨588,587,"__init__","Markers.__init__",(su 64 0),N,mi⟩,⟨846,845,"put_in","put_in",(st 78),N,kU⟩,⟨135,134,"__init__","IntervalTree.__init__",(su 15 0),N,cC⟩,⟨898,897,"__init__","UndoList.__init__",(su 88 0),N,me⟩,⟨462,461,"turn_rows","turn_rows",(st 57),N,mj⟩,⟨69,68,"plist_with","plist_with",(st 7),N,mh⟩,
 ⟨93,92,"plist_removed","plist_removed",(st 11),N,mh⟩,⟨443,442,"need_range","need_range",(st 54),N,mj⟩,⟨457,456,"need_writable_props","need_writable_props",(st 56),N,mj⟩,⟨163,162,"text_length","text_length",(st 18),N,cC⟩,⟨240,239,"find_interval","find_interval",(st 29),N,cC⟩,⟨987,986,"need_visible","need_visible",(st 91),N,uE⟩,⟨883,882,"set_property","set_property",(st 85),N,Bu⟩,⟨790,789,"need_writable","need_writable",(st 70),N,kU⟩,⟨797,796,"reached","reached",(st 71),N,kU⟩,⟨804,803,"tell_ahead","tell_ahead",(st 72),N,kU⟩,⟨825,824,"text_in","text_in",(st 75),N,kU⟩,⟨839,838,"hung_in","hung_in",(st 77),N,kU⟩,⟨811,810,"tell_behind","tell_behind",(st 73),N,kU⟩,⟨114,113,"__init__","Interval.__init__",(su 14 0),N,cC⟩,⟨415,414,"rows_between","rows_between",(st 47),N,fM⟩,⟨100,99,"changed_properties","changed_properties",(st 12),N,mh⟩,⟨450,449,"told_undo","told_undo",(st 55),N,mj⟩,⟨422,421,"put_rows","put_rows",(st 49),N,fM⟩,⟨55,54,"plist_find","plist_find",(st 5),N,mh⟩,⟨149,148,"total_of","total_of",(st 16),N,cC⟩,⟨156,155,"own_length","own_length",(st 17),N,cC⟩,⟨866,865,"plist_rows","plist_rows",(st 82),N,Bu⟩,⟨878,877,"is_value","is_value",(st 84),N,Bu⟩,⟨74,73,"plist_without","plist_without",(st 8),N,mh⟩,⟨62,61,"plist_get","plist_get",(st 6),N,mh⟩,⟨261,260,"following","following",(st 32),N,cC⟩,⟨81,80,"holds_pair","holds_pair",(st 9),N,mh⟩,⟨408,407,"set_properties","set_properties",(st 46),N,fM⟩,
 ⟨48,47,"eq","eq",(st 4),N,mh⟩,⟨247,246,"leftmost","leftmost",(st 30),N,cC⟩,⟨387,386,"range_nodes","range_nodes",(st 43),N,fM⟩,⟨88,87,"same_plist","same_plist",(st 10),N,mh⟩,⟨401,400,"join_range","join_range",(st 45),N,fM⟩,⟨289,288,"split_at","split_at",(st 36),N,cC⟩,⟨394,393,"join_at","join_at",(st 44),N,fM⟩,⟨233,232,"add_above","add_above",(st 28),N,cC⟩,⟨275,274,"put_behind","put_behind",(st 34),N,cC⟩,⟨268,267,"preceding","preceding",(st 33),N,cC⟩,⟨296,295,"drop_interval","drop_interval",(st 37),N,cC⟩,⟨226,225,"settle_up","settle_up",(st 27),N,cC⟩,⟨184,183,"set_right","set_right",(st 21),N,cC⟩,⟨177,176,"set_left","set_left",(st 20),N,cC⟩,⟨254,253,"rightmost","rightmost",(st 31),N,cC⟩,⟨170,169,"put_in_stead","put_in_stead",(st 19),N,cC⟩,⟨219,218,"settle","settle",(st 26),N,cC⟩,⟨205,204,"right_turn_helps","right_turn_helps",(st 24),N,cC⟩,⟨191,190,"rotate_right","rotate_right",(st 22),N,cC⟩,⟨212,211,"left_turn_helps","left_turn_helps",(st 25),N,cC⟩,⟨198,197,"rotate_left","rotate_left",(st 23),N,cC⟩,⟨919,918,"boundary","UndoList.boundary",(su 88 3),N,me⟩,⟨539,538,"insert","GapText.insert",(su 62 6),N,kR⟩,⟨623,622,"inserted","Markers.inserted",(su 64 5),N,mi⟩,⟨764,763,"is_modified","Buffer.is_modified",(su 68 10),N,jn⟩,⟨1083,1082,"property_changes","Recording.property_changes",(su 101 3),N,ml⟩,⟨366,365,"put_rows","TextProps.put_rows",(su 41 6),N,fM⟩,⟨959,958,"renew_unmodified","UndoList.renew_unmodified",(su 88 9),N,me⟩,
 ⟨359,358,"rows_between","TextProps.rows_between",(su 41 5),N,fM⟩,⟨771,770,"set_modified","Buffer.set_modified",(su 68 11),N,jn⟩,⟨504,503,"size","GapText.size",(su 62 1),N,kR⟩,⟨729,728,"size","Buffer.size",(su 68 5),N,jn⟩,⟨757,756,"tick","Buffer.tick",(su 68 9),N,jn⟩,⟨778,777,"touch","Buffer.touch",(su 68 12),N,jn⟩,⟨912,911,"is_at_boundary","UndoList.is_at_boundary",(su 88 2),N,me⟩,⟨525,524,"move_gap","GapText.move_gap",(su 62 4),N,kR⟩,⟨954,953,"note_property","UndoList.note_property",(su 88 8),N,me⟩,⟨595,594,"numbers","Markers.numbers",(su 64 1),N,mi⟩,⟨532,531,"widen_gap","GapText.widen_gap",(su 62 5),N,kR⟩,⟨933,932,"note_state","UndoList.note_state",(su 88 5),N,me⟩]
def cT:List Nat:=[38,117,138,369,570,640,675,781,969,1046,1086]
def aT:List (Nat×Nat):=[(0,24),(0,23),(1,95),(1,104),(1,63),(1,96),(1,103),(2,79),(3,58),(4,73),(4,75),(4,74),(4,42),(5,17),(7,45),(7,49),(7,55),(7,48),(7,11),(7,51),(7,53),(7,47),(7,43),(7,40),(7,39),(7,52),(7,44),(7,27),(7,50),(7,54),(7,41),(7,9),(7,14),(7,46),(8,80),(8,81),(8,83),(8,82),(8,17),(9,56),(10,15)]
def mT:List (Nat×Nat×Nat):=[(3,101,82),(3,106,84),(4,68,78),(4,118,91),(4,38,86),(4,117,94),(5,78,79),(5,65,93),(7,21,80),(7,26,85),(7,38,87),(7,10,88),(7,91,89),(8,16,77),(8,116,90),(8,120,92),(8,123,95),(8,72,83),(10,100,81)]
def kT:List (Nat×Nat):=[(1,41),(2,24),(3,11),(4,21),(5,22),(7,9),(8,25),(10,12)]
def tP:List Nat:=[1142,30,1092,1106,1135,1128,1116,1111,1024,689,849,319,1059,1099,1123,464,478,471,375,1017,1010,492,583,841,130,893,459,64,90,438,452,158,235,982,880,785,792,799,820,834,806,109,410,95,445,417,50,144,151,863,873,71,57,256,76,403,43,242,382,83,396,284,389,228,270,263,291,221,179,172,249,165,214,200,186,207,193,914,534,618,759,1078,361,956,354,766,499,724,752,773,907,520,949,590,527,928]
end Tactic
namespace Tactic
open PySem PySem.W PySem.Calls PyProof.Rows Lh.Tactic
noncomputable section
variable{b:Bool}{sc:Scope}{es:List Expr}
def nm(k:Nat):Str:=match lA[k]? with
 |some x=>ax x
 |none=>⟨(bH k 97).toArray⟩
def rI(x:Str):Option Value:=(nQ.find? λe=>ax e.1 == x).map (·.2.2)
def kX(f:Nat):Nat:=match fT[f]? with
 |some r=>r.a
 |none=>0
def fC(c:Nat):Nat:=cT.getD c 0
def lB(o:Option du)(a b c d:Bool):Bool:=match o with
 |some .local=>a
 |some .cell=>b
 |some .free=>c
 |some .globalImplicit=>d
 |_=>false
def wC{o:Option du}{a c d:Bool}(h:lB o a b c d=true):(o=some .local/\a=true)\/(o=some .cell/\b=true)\/(o=some .free/\c=true)\/(o=some .globalImplicit/\d=true):=by
 induction o using dr
 ·show(aF h).elim
 ·rename_i k;induction k using NameKind.casesOn
  ·show .inl ⟨rfl,h⟩
  ·show .inr (.inl ⟨rfl,h⟩)
  ·show .inr (.inr (.inl ⟨rfl,h⟩))
  ·show(aF h).elim
  ·show .inr (.inr (.inr ⟨rfl,h⟩))
theorem Ir{o:Option du}(h:lB o true false false false=true):o=some .local:=(wC h).elim (·.1) λh=>by rcases h with⟨_,h⟩ | ⟨_,h⟩ | ⟨_,h⟩<;>show(aF h).elim
theorem Iw{o:Option du}{c:Bool}(h:lB o true b c false=true):o=some .local\/(o=some .cell/\b=true)\/(o=some .free/\c=true):=(wC h).imp (·.1) λh=>h.imp id λh=>h.elim id λh=>(aF h.2).elim
def jR(sc:Scope)(x:Nat)(n:Str):Bool:=n == nm x && lB (sc.names.lookup n) true true true false
def Iy(sc:Scope)(n:Str):Bool:=lB (sc.names.lookup n) false false false true
def qQ(sc:Scope)(n:Str)(a:Nat):Bool:=Iy sc n && (match rI n with
 |some (.ref b)=>ai b a
 |_=>false)
def qe(sc:Scope)(n:Str)(w:String):Bool:=Iy sc n && n == ax w && (rI n).isNone
def ap1:Cm->jf
 | .lt=>.Lt
 | .le=>.LtE
 | .gt=>.Gt
 | .ge=>.GtE
 | .eq=>.Eq
 | .ne=>.NotEq
 | .is=>.Is
 | .cM=>.IsNot
 | .wq=>.NotIn
def wD(p:jf)(o:Cm):Bool:=decide (p=ap1 o)
def aqe:Ar->pT
 | .add=>.Add
 | .sub=>.Sub
 | .mul=>.Mult
 | .fdiv=>.FloorDiv
 | .mod=>.Mod
 | .cat=>.Add
 | .rep=>.Mult
def K4(p:pT)(o:Ar):Bool:=decide (p=aqe o)
def Ff:Bi->String
 | .len=>"len"
 | .lst=>"list"
 | .dict=>"dict"
 | .sorted=>"sorted"
 | .abs=>"abs"
 | .min=>"min"
 | .max=>"max"
def K5:Lm->String
 | .append=>"append"
 | .extend=>"extend"
 | .pop=>"pop"
theorem vI{c:Prop} [Decidable c]{f:c->Bool}(h:(if k:c then f k else false)=true):∃k,f k=true:=
 if k:c then ⟨k,(dif_pos k).symm.trans h⟩ else absurd ((dif_neg k).symm.trans h) aF
def xO(e:Expr)(p:BoolOp->List Expr->Pos->Bool):Bool:=if h:e.ctorIdx=0 then Expr.BoolOp.elim (motive_1:=λ_=>Bool) e h p else false
@[elab_as_elim] theorem Fg{e:Expr}{p}{P:Expr->Prop}(h:xO e p=true)(k:∀a b c,p a b c=true->P (.BoolOp a b c)):P e:=
 let ⟨i,_⟩:=vI h;Expr.BoolOp.elim (motive_1:=λe=>xO e p=true->P e) e i k h
def xB(e:Expr)(p:Expr->pT->Expr->Pos->Bool):Bool:=if h:e.ctorIdx=2 then Expr.BinOp.elim (motive_1:=λ_=>Bool) e h p else false
@[elab_as_elim] theorem Fi{e:Expr}{p}{P:Expr->Prop}(h:xB e p=true)(k:∀a b c d,p a b c d=true->P (.BinOp a b c d)):P e:=
 let ⟨i,_⟩:=vI h;Expr.BinOp.elim (motive_1:=λe=>xB e p=true->P e) e i k h
def xU(e:Expr)(p:UnaryOp->Expr->Pos->Bool):Bool:=if h:e.ctorIdx=3 then Expr.UnaryOp.elim (motive_1:=λ_=>Bool) e h p else false
@[elab_as_elim] theorem wF{e:Expr}{p}{P:Expr->Prop}(h:xU e p=true)(k:∀a b c,p a b c=true->P (.UnaryOp a b c)):P e:=
 let ⟨i,_⟩:=vI h;Expr.UnaryOp.elim (motive_1:=λe=>xU e p=true->P e) e i k h
def xW(e:Expr)(p:gb->Expr->Scope->Pos->Bool):Bool:=if h:e.ctorIdx=4 then Expr.Lambda.elim (motive_1:=λ_=>Bool) e h p else false
@[elab_as_elim] theorem K6{e:Expr}{p}{P:Expr->Prop}(h:xW e p=true)(k:∀a b c d,p a b c d=true->P (.Lambda a b c d)):P e:=
 let ⟨i,_⟩:=vI h;Expr.Lambda.elim (motive_1:=λe=>xW e p=true->P e) e i k h
def xI(e:Expr)(p:Expr->Expr->Expr->Pos->Bool):Bool:=if h:e.ctorIdx=5 then Expr.IfExp.elim (motive_1:=λ_=>Bool) e h p else false
@[elab_as_elim] theorem K7{e:Expr}{p}{P:Expr->Prop}(h:xI e p=true)(k:∀a b c d,p a b c d=true->P (.IfExp a b c d)):P e:=
 let ⟨i,_⟩:=vI h;Expr.IfExp.elim (motive_1:=λe=>xI e p=true->P e) e i k h
def xD(e:Expr)(p:List (Option Expr)->List Expr->Pos->Bool):Bool:=if h:e.ctorIdx=6 then Expr.Dict.elim (motive_1:=λ_=>Bool) e h p else false
@[elab_as_elim] theorem Fj{e:Expr}{p}{P:Expr->Prop}(h:xD e p=true)(k:∀a b c,p a b c=true->P (.Dict a b c)):P e:=
 let ⟨i,_⟩:=vI h;Expr.Dict.elim (motive_1:=λe=>xD e p=true->P e) e i k h
def xG(e:Expr)(p:Expr->List Comprehension->Scope->Pos->Bool):Bool:=if h:e.ctorIdx=8 then Expr.ListComp.elim (motive_1:=λ_=>Bool) e h p else false
@[elab_as_elim] theorem BD{e:Expr}{p}{P:Expr->Prop}(h:xG e p=true)(k:∀a b c d,p a b c d=true->P (.ListComp a b c d)):P e:=
 let ⟨i,_⟩:=vI h;Expr.ListComp.elim (motive_1:=λe=>xG e p=true->P e) e i k h
def xM(e:Expr)(p:Expr->List jf->List Expr->Pos->Bool):Bool:=if h:e.ctorIdx=15 then Expr.Compare.elim (motive_1:=λ_=>Bool) e h p else false
@[elab_as_elim] theorem BF{e:Expr}{p}{P:Expr->Prop}(h:xM e p=true)(k:∀a b c d,p a b c d=true->P (.Compare a b c d)):P e:=
 let ⟨i,_⟩:=vI h;Expr.Compare.elim (motive_1:=λe=>xM e p=true->P e) e i k h
def xF(e:Expr)(p:Expr->List Expr->List Keyword->Pos->Bool):Bool:=if h:e.ctorIdx=16 then Expr.Call.elim (motive_1:=λ_=>Bool) e h p else false
@[elab_as_elim] theorem fE{e:Expr}{p}{P:Expr->Prop}(h:xF e p=true)(k:∀a b c d,p a b c d=true->P (.Call a b c d)):P e:=
 let ⟨i,_⟩:=vI h;Expr.Call.elim (motive_1:=λe=>xF e p=true->P e) e i k h
def xC(e:Expr)(p:dX->Nat->Pos->Bool):Bool:=if h:e.ctorIdx=19 then Expr.Constant.elim (motive_1:=λ_=>Bool) e h p else false
@[elab_as_elim] theorem jS{e:Expr}{p}{P:Expr->Prop}(h:xC e p=true)(k:∀a b c,p a b c=true->P (.Constant a b c)):P e:=
 let ⟨i,_⟩:=vI h;Expr.Constant.elim (motive_1:=λe=>xC e p=true->P e) e i k h
def xA(e:Expr)(p:Expr->Str->Pos->Bool):Bool:=if h:e.ctorIdx=20 then Expr.Attribute.elim (motive_1:=λ_=>Bool) e h p else false
@[elab_as_elim] theorem jT{e:Expr}{p}{P:Expr->Prop}(h:xA e p=true)(k:∀a b c,p a b c=true->P (.Attribute a b c)):P e:=
 let ⟨i,_⟩:=vI h;Expr.Attribute.elim (motive_1:=λe=>xA e p=true->P e) e i k h
def xS(e:Expr)(p:Expr->Expr->Pos->Bool):Bool:=if h:e.ctorIdx=21 then Expr.Subscript.elim (motive_1:=λ_=>Bool) e h p else false
@[elab_as_elim] theorem nh{e:Expr}{p}{P:Expr->Prop}(h:xS e p=true)(k:∀a b c,p a b c=true->P (.Subscript a b c)):P e:=
 let ⟨i,_⟩:=vI h;Expr.Subscript.elim (motive_1:=λe=>xS e p=true->P e) e i k h
def xN(e:Expr)(p:Str->Pos->Bool):Bool:=if h:e.ctorIdx=23 then Expr.Name.elim (motive_1:=λ_=>Bool) e h p else false
@[elab_as_elim] theorem dy{e:Expr}{p}{P:Expr->Prop}(h:xN e p=true)(k:∀a b,p a b=true->P (.Name a b)):P e:=
 let ⟨i,_⟩:=vI h;Expr.Name.elim (motive_1:=λe=>xN e p=true->P e) e i k h
def xL(e:Expr)(p:List Expr->Pos->Bool):Bool:=if h:e.ctorIdx=24 then Expr.List.elim (motive_1:=λ_=>Bool) e h p else false
@[elab_as_elim] theorem Fp{e:Expr}{p}{P:Expr->Prop}(h:xL e p=true)(k:∀a b,p a b=true->P (.List a b)):P e:=
 let ⟨i,_⟩:=vI h;Expr.List.elim (motive_1:=λe=>xL e p=true->P e) e i k h
def xT(e:Expr)(p:List Expr->Nat->Pos->Bool):Bool:=if h:e.ctorIdx=25 then Expr.Tuple.elim (motive_1:=λ_=>Bool) e h p else false
@[elab_as_elim] theorem uG{e:Expr}{p}{P:Expr->Prop}(h:xT e p=true)(k:∀a b c,p a b c=true->P (.Tuple a b c)):P e:=
 let ⟨i,_⟩:=vI h;Expr.Tuple.elim (motive_1:=λe=>xT e p=true->P e) e i k h
def xK(e:Expr)(p:Option Expr->Option Expr->Option Expr->Pos->Bool):Bool:=if h:e.ctorIdx=26 then Expr.Slice.elim (motive_1:=λ_=>Bool) e h p else false
@[elab_as_elim] theorem BG{e:Expr}{p}{P:Expr->Prop}(h:xK e p=true)(k:∀a b c d,p a b c d=true->P (.Slice a b c d)):P e:=
 let ⟨i,_⟩:=vI h;Expr.Slice.elim (motive_1:=λe=>xK e p=true->P e) e i k h
def yR(e:Stmt)(p:Option Expr->Pos->Bool):Bool:=if h:e.ctorIdx=3 then Stmt.Return.elim (motive_2:=λ_=>Bool) e h p else false
@[elab_as_elim] theorem Fq{e:Stmt}{p}{P:Stmt->Prop}(h:yR e p=true)(k:∀a b,p a b=true->P (.Return a b)):P e:=
 let ⟨i,_⟩:=vI h;Stmt.Return.elim (motive_2:=λe=>yR e p=true->P e) e i k h
def yA(e:Stmt)(p:List Expr->Expr->Pos->Bool):Bool:=if h:e.ctorIdx=5 then Stmt.Assign.elim (motive_2:=λ_=>Bool) e h p else false
@[elab_as_elim] theorem BH{e:Stmt}{p}{P:Stmt->Prop}(h:yA e p=true)(k:∀a b c,p a b c=true->P (.Assign a b c)):P e:=
 let ⟨i,_⟩:=vI h;Stmt.Assign.elim (motive_2:=λe=>yA e p=true->P e) e i k h
def yF(e:Stmt)(p:Expr->Expr->List Stmt->List Stmt->Pos->Bool):Bool:=if h:e.ctorIdx=9 then Stmt.For.elim (motive_2:=λ_=>Bool) e h p else false
@[elab_as_elim] theorem K8{e:Stmt}{p}{P:Stmt->Prop}(h:yF e p=true)(k:∀a b c d e,p a b c d e=true->P (.For a b c d e)):P e:=
 let ⟨i,_⟩:=vI h;Stmt.For.elim (motive_2:=λe=>yF e p=true->P e) e i k h
def yW(e:Stmt)(p:Expr->List Stmt->List Stmt->Pos->Bool):Bool:=if h:e.ctorIdx=11 then Stmt.While.elim (motive_2:=λ_=>Bool) e h p else false
@[elab_as_elim] theorem K9{e:Stmt}{p}{P:Stmt->Prop}(h:yW e p=true)(k:∀a b c d,p a b c d=true->P (.While a b c d)):P e:=
 let ⟨i,_⟩:=vI h;Stmt.While.elim (motive_2:=λe=>yW e p=true->P e) e i k h
def yI(e:Stmt)(p:Expr->List Stmt->List Stmt->Pos->Bool):Bool:=if h:e.ctorIdx=12 then Stmt.If.elim (motive_2:=λ_=>Bool) e h p else false
@[elab_as_elim] theorem Ld{e:Stmt}{p}{P:Stmt->Prop}(h:yI e p=true)(k:∀a b c d,p a b c d=true->P (.If a b c d)):P e:=
 let ⟨i,_⟩:=vI h;Stmt.If.elim (motive_2:=λe=>yI e p=true->P e) e i k h
def yZ(e:Stmt)(p:Option Expr->Option Expr->Pos->Bool):Bool:=if h:e.ctorIdx=16 then Stmt.Raise.elim (motive_2:=λ_=>Bool) e h p else false
@[elab_as_elim] theorem Le{e:Stmt}{p}{P:Stmt->Prop}(h:yZ e p=true)(k:∀a b c,p a b c=true->P (.Raise a b c)):P e:=
 let ⟨i,_⟩:=vI h;Stmt.Raise.elim (motive_2:=λe=>yZ e p=true->P e) e i k h
def yT(e:Stmt)(p:List Stmt->List ExceptHandler->List Stmt->List Stmt->Pos->Bool):Bool:=if h:e.ctorIdx=17 then Stmt.Try.elim (motive_2:=λ_=>Bool) e h p else false
@[elab_as_elim] theorem Lf{e:Stmt}{p}{P:Stmt->Prop}(h:yT e p=true)(k:∀a b c d e,p a b c d e=true->P (.Try a b c d e)):P e:=
 let ⟨i,_⟩:=vI h;Stmt.Try.elim (motive_2:=λe=>yT e p=true->P e) e i k h
def yE(e:Stmt)(p:Expr->Pos->Bool):Bool:=if h:e.ctorIdx=24 then Stmt.Expr.elim (motive_2:=λ_=>Bool) e h p else false
@[elab_as_elim] theorem Lg{e:Stmt}{p}{P:Stmt->Prop}(h:yE e p=true)(k:∀a b,p a b=true->P (.Expr a b)):P e:=
 let ⟨i,_⟩:=vI h;Stmt.Expr.elim (motive_2:=λe=>yE e p=true->P e) e i k h
def kB(e:dX)(p:Bool->Bool):Bool:=if h:e.ctorIdx=1 then Const.bool.elim (motive:=λ_=>Bool) e h p else false
@[elab_as_elim] theorem Li{e:dX}{p}{P:dX->Prop}(h:kB e p=true)(k:∀a,p a=true->P (.bool a)):P e:=
 let ⟨i,_⟩:=vI h;Const.bool.elim (motive:=λe=>kB e p=true->P e) e i k h
def kI(e:dX)(p:Int->Bool):Bool:=if h:e.ctorIdx=2 then Const.int.elim (motive:=λ_=>Bool) e h p else false
@[elab_as_elim] theorem BI{e:dX}{p}{P:dX->Prop}(h:kI e p=true)(k:∀a,p a=true->P (.int a)):P e:=
 let ⟨i,_⟩:=vI h;Const.int.elim (motive:=λe=>kI e p=true->P e) e i k h
def kS(e:dX)(p:Str->Bool):Bool:=if h:e.ctorIdx=5 then Const.str.elim (motive:=λ_=>Bool) e h p else false
@[elab_as_elim] theorem BJ{e:dX}{p}{P:dX->Prop}(h:kS e p=true)(k:∀a,p a=true->P (.str a)):P e:=
 let ⟨i,_⟩:=vI h;Const.str.elim (motive:=λe=>kS e p=true->P e) e i k h
def one{α:Type}(l:List α)(p:α->Bool):Bool:=match l with
 | [x]=>p x
 |_=>false
@[elab_as_elim] def dv{α:Type}{l:List α}{p}{P:List α->Prop}(h:one l p=true)(k:∀a,p a=true->P [a]):P l:=by
 induction l using cU with
 |nil=>show(aF h).elim
 |cons a r=>induction r using cU with
  |nil=>show k a h
  |cons=>show(aF h).elim
def two{α:Type}(l:List α)(p:α->α->Bool):Bool:=match l with
 |x::r=>one r (p x)
 |_=>false
@[elab_as_elim] def jq{α:Type}{l:List α}{p}{P:List α->Prop}(h:two l p=true)(k:∀a b,p a b=true->P [a,b]):P l:=by
 induction l using cU with
 |nil=>show(aF h).elim
 |cons a r=>show dv (P:=λr=>P (a::r)) h (k a)
def thr{α:Type}(l:List α)(p:α->α->α->Bool):Bool:=match l with
 |x::r=>two r (p x)
 |_=>false
@[elab_as_elim] def Sy{α:Type}{l:List α}{p}{P:List α->Prop}(h:thr l p=true)(k:∀a b c,p a b c=true->P [a,b,c]):P l:=by
 induction l using cU with
 |nil=>show(aF h).elim
 |cons a r=>show jq (P:=λr=>P (a::r)) h (k a)
@[elab_as_elim] def bq{α:Type}{l:List α}{P:List α->Prop}(h:l.isEmpty=true)(k:P []):P l:=by
 induction l using cU with
 |nil=>show k
 |cons=>show(aF h).elim
@[elab_as_elim] def ic{α:Type}{l:Option α}{p}{P:Option α->Prop}(h:l.any p=true)(k:∀a,p a=true->P (some a)):P l:=by
 induction l using dr with
 |none=>show(aF h).elim
 |some a=>show k a h
@[elab_as_elim] def kY{α:Type}{l:Option α}{P:Option α->Prop}(h:l.isNone=true)(k:P none):P l:=by
 induction l using dr with
 |none=>show k
 |some a=>show(aF h).elim
theorem fF{a:Bool}{P:Prop}(h:(a && b)=true)(k:a=true->b=true->P):P:=k (dN.mp h).1 (dN.mp h).2
theorem ie{a c:Bool}{P:Prop}(h:(a && b && c)=true)(k:a=true->b=true->c=true->P):P:=fF h λh z=>fF h λx y=>k x y z
theorem BK{a c d:Bool}{P:Prop}(h:(a && b && c && d)=true)(k:a=true->b=true->c=true->d=true->P):P:=fF h λh z=>ie h λx y u=>k x y u z
theorem BL{a c d e:Bool}{P:Prop}(h:(a && b && c && d && e)=true)(k:a=true->b=true->c=true->d=true->e=true->P):P:=fF h λh z=>BK h λx y u v=>k x y u v z
theorem BM{a c d e f:Bool}{P:Prop}(h:(a && b && c && d && e && f)=true)(k:a=true->b=true->c=true->d=true->e=true->f=true->P):P:=fF h λh z=>BL h λx y u v w=>k x y u v w z
@[elab_as_elim] theorem jU{α:Type} [BEq α] [LawfulBEq α]{a b:α}{P:α->Prop}(h:(a == b)=true)(k:P b):P a:=beq_iff_eq.mp h ▸ k
@[elab_as_elim] theorem Lj{α:Type} [BEq α] [LawfulBEq α]{a b:α}{P:α->Prop}(h:(a == b)=true)(k:P a):P b:=beq_iff_eq.mp h ▸ k
def Lk(o:UnaryOp):Bool:=ai o.ctorIdx 1
def isNeg(o:UnaryOp):Bool:=ai o.ctorIdx 3
def qf(o:BoolOp):Bool:=ai o.ctorIdx 0
@[elab_as_elim] def wG{o}{P:UnaryOp->Prop}(h:Lk o=true)(k:P .Not):P o:=by
 induction o using UnaryOp.casesOn<;>first | show k | show(aF h).elim
@[elab_as_elim] def lC{o}{P:UnaryOp->Prop}(h:isNeg o=true)(k:P .USub):P o:=by
 induction o using UnaryOp.casesOn<;>first | show k | show(aF h).elim
@[elab_as_elim] def wH{o}{P:BoolOp->Prop}(h:qf o=true)(k:P .And):P o:=by
 induction o using BoolOp.casesOn<;>first | show k | show(aF h).elim
@[elab_as_elim] def BO{o}{P:BoolOp->Prop}(h:(!qf o)=true)(k:P .Or):P o:=by
 induction o using BoolOp.casesOn<;>first | show k | show(aF h).elim
def ns(k:Nat)(e:Expr):Bool:=!Nat.beq e.ctorIdx k
def vQ(e:Expr):Bool:=!(xF e λf a k _=>xN f λg _=>a.isEmpty && k.isEmpty && g == ("super":Str))
@[elab_as_elim] theorem jr{x:Nat}{n:Str}{P:Str->Prop}(h:jR sc x n=true)(k:jR sc x (nm x)=true->P (nm x)):P n:=
 fF h λe _=>jU (P:=λn=>jR sc x n=true->P n) e k h
@[elab_as_elim] def Ln{c:dX}{P:dX->Prop}(h:ai c.ctorIdx 0=true)(k:P .none):P c:=by
 induction c using Const.casesOn<;>first | show k | show(aF h).elim
def BP(sc:Scope):List Nat->List Expr->Bool
 | [],l=>l.isEmpty
 |x::r,l=>match l with
  | []=>false
  |e::l=>(xN e λn _=>jR sc x n) && BP sc r l
@[elab_as_elim] def gG{x:Nat}{l:List Nat}{P:List Expr->Prop}(h:BP sc (x::l) es=true)(k:∀p r,jR sc x (nm x)=true->BP sc l r=true->P (.Name (nm x) p::r)):P es:=by
 induction es using cU with
 |nil=>show(aF h).elim
 |cons e r=>show fF h λa b=>dy (P:=λe=>P (e::r)) a λn p a=>jr (P:=λn=>P (.Name n p::r)) a λa=>k p r a b
def BQ(sc:Scope)(t:List Nat)(e:Expr):Bool:=(xN e λn _=>one t λx=>jR sc x n) || xT e λl _ _=>dU 1 t.length && BP sc t l
def DH:List Nat->List Arg->Bool
 | [],[]=>true
 |x::r,⟨n,none,_⟩::l=>n == nm x && DH r l
 |_,_=>false
def DI(a:gb):Bool:=a.posonlyargs.isEmpty && a.vararg.isNone && a.kwonlyargs.isEmpty && a.kw_defaults.isEmpty && a.kwarg.isNone
def Fs(sc:Scope):Bool:=decide (sc.kind=.function) && !sc.isGenerator && !sc.isCoroutine
def Lp(sc inner:Scope)(t:List Nat):Bool:=Fs inner && (inner.names.all λx=>lB (some x.2) ((x.1 == (".0":Str) || t.any λk=>nm k == x.1) && lB (inner.names.lookup x.1) true false false false) false (lB (sc.names.lookup x.1) false true true false && !(x.1 == ("__classdict__":Str))) true) && t.all λk=>lB (inner.names.lookup (nm k)) true false false false
def nW(sc inner:Scope):Scope:={ inner with names:=inner.names.map λ(n,k)=>if k == .free && sc.kind == .function && sc.names.lookup n == some .cell then (n,.cell) else (n,k)}
def Iz(l:List Expr)(p:List Expr->gb->Expr->Scope->Bool):Bool:=match l with
 | []=>false
 |e::r=>match r with
  | []=>xW e λar bo inner _=>p [] ar bo inner
  |_::_=>Iz r λl=>p (e::l)
def Ft(sc:Scope)(aw aG:List Nat)(ar:gb)(inner:Scope):Bool:=!aG.isEmpty && DI ar && ar.defaults.isEmpty && DH aw ar.args && Fs inner &&
   (inner.names.all λx=>lB (some x.2) (aw.any λk=>nm k == x.1) false ((aG.any λk=>nm k == x.1) && lB (sc.names.lookup x.1) false true false false && !(x.1 == ("__classdict__":Str))) true) && (aG.all λk=>lB (inner.names.lookup (nm k)) false false true false) && (aw.all λk=>lB (inner.names.lookup (nm k)) true false false false)
mutual
noncomputable def aW(sc:Scope):E->Expr->Bool
 | .stop,_=>false
 | .cN,e=>xC e λc _ _=>ai c.ctorIdx 0
 | .cB b,e=>xC e λc _ _=>kB c λd=>b == d
 | .cI i,e=>(xC e λc _ _=>kI c λj=>decide (i=j)) || xU e λo x _=>isNeg o && xC x λc _ _=>kI c λj=>decide (i=-j)
 | .cS k,e=>xC e λc _ _=>kS c λx=>x == nm k
 | .v x,e=>xN e λn _=>jR sc x n
 | .glob a,e=>xN e λn _=>qQ sc n a
 | .attr a k,e=>xA e λv n _=>aW sc a v && n == nm k && vQ v
 | .ar o a b,e=>xB e λl p r _=>K4 p o && aW sc a l && aW sc b r
 | .not a,e=>xU e λo v _=>Lk o && aW sc a v
 | .jG c a b,e=>xI e λt x y _=>aW sc c t && aW sc a x && aW sc b y
 | .and a b,e=>xO e λo l _=>two l λx y=>qf o && aW sc a x && aW sc b y
 | .or a b,e=>xO e λo l _=>two l λx y=>!qf o && aW sc a x && aW sc b y
 | .cmp o a b,e=>xM e λl ps rs _=>one ps λp=>one rs λr=>wD p o && aW sc a l && aW sc b r && ns 7 r
 | .lj o u a b c,e=>xM e λl ps rs _=>two ps λp q=>two rs λr t=>wD p o && wD q u && aW sc a l && aW sc b r && aW sc c t && ns 7 t
 | .list l,e=>xL e λes _=>d9 sc l es
 | .tup l,e=>xT e λes _ _=>d9 sc l es
 | .gN,e=>xD e λk v _=>k.isEmpty && v.isEmpty
 | .idx a i,e=>xS e λv s _=>aW sc a v && aW sc i s && ns 26 s
 | .lu a lo hi,e=>xS e λv s _=>xK s λl u t _=>aW sc a v && Fu sc lo l && Fu sc hi u && t.isNone
 | .qJ a,e=>xS e λv s _=>xK s λl u t _=>t.any λt=>xU t λo c _=>xC c λc _ _=>kI c λj=>aW sc a v && l.isNone && u.isNone && isNeg o && decide (j=1)
 | .call f l,e=>xF e λg as ks _=>xN g λg _=>qQ sc g (kX f) && d9 sc l as && ks.isEmpty
 | .gO f l aw b aG,e=>xF e λg as ks _=>xN g λg _=>qQ sc g (kX f) && ks.isEmpty && Iz as λi ar bo inner=>d9 sc l i && Ft sc aw aG ar inner && aW inner b bo
 | .new c l,e=>xF e λg as ks _=>xN g λg _=>qQ sc g (fC c) && d9 sc l as && ks.isEmpty
 | .bN a k l,e=>xF e λg as ks ps=>xA g λv n ap=>aW sc a v && n == nm k && d9 sc l as && ks.isEmpty && (vQ v && ap.endLine == ps.line) && dU as.length 20
 | .bi b l,e=>xF e λg as ks _=>xN g λg _=>qe sc g (Ff b) && ks.isEmpty && d9 sc l as
 | .lm m a l,e=>xF e λg as ks ps=>xA g λv n ap=>aW sc a v && n == ax (K5 m) && d9 sc l as && ks.isEmpty && (vQ v && ap.endLine == ps.line) && dU as.length 20
 | .items a,e=>xF e λg as ks _=>xN g λg _=>one as λc=>xF c λm bs js ps=>xA m λv n ap=>qe sc g "sorted" && aW sc a v && n == ("items":Str) && (ks.isEmpty && bs.isEmpty && js.isEmpty) && (vQ v && ap.endLine == ps.line)
 | .isTrue a,e=>xM e λl ps rs _=>one ps λp=>one rs λr=>xF l λg as ks _=>xN g λg _=>one as λv=>xC r λc _ _=>kS c λx=>qe sc g "repr" && aW sc a v && x == ("True":Str) && ks.isEmpty && wD p .eq && ns 22 v
 | .Bt a,e=>xF e λg as ks _=>xN g λg _=>two as λx q=>xN q λq _=>qe sc g "isinstance" && ks.isEmpty && qe sc q "bool" && ns 22 x && aW sc a x
 | .kh x l,e=>xF e λg as ks _=>xN g λg _=>jR sc x g && d9 sc l as && ks.isEmpty
 | .comp a t src ifs,e=>xG e λv gs inner _=>one gs λg=>Lp sc inner t && decide (g.is_async=0) && BQ (nW sc inner) t g.target && (aW sc src g.iter && ns 7 g.iter) && d9 (nW sc inner) ifs g.ifs && aW (nW sc inner) a v
 | .oG l,e=>xF e λg as ks _=>xN g λg _=>qe sc g "range" && d9 sc l as && ks.isEmpty
noncomputable def d9(sc:Scope):List E->List Expr->Bool
 | [],l=>l.isEmpty
 |a::r,l=>match l with
  | []=>false
  |e::l=>ns 22 e && aW sc a e && d9 sc r l
noncomputable def Fu(sc:Scope):Option E->Option Expr->Bool
 |none,o=>o.isNone
 |some a,o=>o.any λe=>aW sc a e
end
@[elab_as_elim] def gH{a:E}{r:List E}{P:List Expr->Prop}(h:d9 sc (a::r) es=true)(k:∀e l,ns 22 e=true->aW sc a e=true->d9 sc r l=true->P (e::l)):P es:=by
 induction es using cU with
 |nil=>show(aF h).elim
 |cons e l=>show ie h (k e l)
def Ai{e:Expr}{l:List Expr}{env:aD}(h:ns 22 e=true):bC (e::l) env=(false,eval e env)::bC l env:=by
 induction e using dC<;>first | rfl | show(aF h).elim
def DJ(sc:Scope)(t:Tg)(e:Expr):Bool:=match t with
 | .v x=>xN e λn _=>jR sc x n && lB (sc.names.lookup n) true true false false
 | .attr a k=>xA e λv n _=>aW sc a v && n == nm k
 | .idx a i=>xS e λv s _=>aW sc a v && aW sc i s
 | .lu a lo hi=>xS e λv s _=>xK s λl u t _=>l.any λl=>u.any λu=>aW sc a v && aW sc lo l && aW sc hi u && t.isNone
def wI(sc:Scope):List Tg->List Expr->Bool
 | [],l=>l.isEmpty
 |t::r,l=>match l with
  | []=>false
  |e::l=>DJ sc t e && wI sc r l
def Fv{t:Tg}{e:Expr}(h:DJ sc t e=true):ns 22 e=true/\ns 24 e=true/\ns 25 e=true:=by
 induction t using Tg.casesOn
 ·show dy h λ_ _ _=>⟨rfl,rfl,rfl⟩
 ·show jT h λ_ _ _ _=>⟨rfl,rfl,rfl⟩
 ·show nh h λ_ _ _ _=>⟨rfl,rfl,rfl⟩
 ·show nh h λ_ _ _ _=>⟨rfl,rfl,rfl⟩
def Lq{e:Expr}{l:List Expr}{env:aD}(h:ns 22 e=true):fj (e::l) env=(false,ew e env)::fj l env:=by
 induction e using dC<;>first | rfl | show(aF h).elim
@[elab_as_elim] def lD{t:Tg}{l:List Tg}{P:List Expr->Prop}(h:wI sc (t::l) es=true)(k:∀e r,DJ sc t e=true->wI sc l r=true->P (e::r)):P es:=by
 induction es using cU with
 |nil=>show(aF h).elim
 |cons e r=>show fF h (k e r)
def Lr(e:Expr):Bool:=ns 8 e && ns 9 e && ns 10 e
def Ls(sc:Scope)(n:Str):Bool:=lB (sc.names.lookup n) true false false false
def Sz(sc:Scope)(t v:Expr):Bool:=Lr v || xG v λ_ _ _ _=>(xN t λn _=>!Ls sc n) || xA t λ_ _ _=>true
def Fw:List Expr->Bool
 | []=>true
 |e::r=>t7 8 e && Fw r
def Sm.sp(a:Sm):Bool:=(by cases a with | stop=>show true | _=>show false)
def Sm.apT{a:Sm}(h:a.sp=true):a=.stop:=by
 cases a with
 |stop=>show rfl
 |_=>show(aF h).elim
def Lv(a:Sm)(r:List Sm):Bool:=a.sp && r.isEmpty
def SD:Expr:=.Constant .none 0 ⟨0,0,0,0⟩
mutual
noncomputable def IA(sc:Scope):Sm->Stmt->Bool
 | .stop,_=>true
 | .asg t e,z=>yA z λtg v _=>one tg λtg=>DJ sc t tg && aW sc e v && Sz sc tg v
 | .ly ts e,z=>yA z λtg v _=>one tg λtg=>xT tg λes _ _=>wI sc ts es && aW sc e v && !(xT v λvs _ _=>Fw vs)
 | .ex e,z=>yE z λv _=>aW sc e v && Lr v
 | .iff c a b,z=>yI z λt x y _=>aW sc c t && qR sc a x && qR sc b y
 | .jH c b,z=>yW z λt x y _=>aW sc c t && qR sc b x && y.isEmpty
 | .cD t src b,z=>yF z λtg it x y _=>BQ sc t tg && aW sc src it && qR sc b x && y.isEmpty && ns 7 it
 | .ret e,z=>yR z λv _=>aW sc e (v.getD SD)
 | .raise k e,z=>yZ z λa b _=>a.any λa=>xF a λg as ks _=>xN g λg _=>two as λx d=>xC x λc _ _=>kS c λx=>qQ sc g (fC 0) && x == nm k && aW sc e d && ns 22 d && ks.isEmpty && b.isNone
 | .qK b x,z=>yT z λbo hs el fi _=>one hs fun
  | .ExceptHandler ty nn bd _=>ty.any λt=>xN t λg _=>nn.any λn=>one bd λr=>yR r λv _=>v.any λv=>xA v λo q _=>xN o λn' _=>qR sc b bo && qQ sc g (fC 0) && jR sc x n && n' == n && Ls sc n && (q == ("symbol":Str) && el.isEmpty && fi.isEmpty)
noncomputable def qR(sc:Scope):List Sm->List Stmt->Bool
 | [],l=>l.isEmpty
 |a::r,l=>match l with
  | []=>Lv a r
  |s::l=>Lv a r || IA sc a s && qR sc r l
end
@[elab_as_elim] def Lw{e:E}{P:E->Prop}(h:aW sc e SD=true)(k:P .cN):P e:=by
 cases e with
 |cN=>show k
 |_=>show(aF h).elim
theorem SG{a:Sm}{r:List Sm}(h:Lv a r=true):a=.stop/\r=[]:=
 fF h λh i=>bq i ⟨Sm.apT h,rfl⟩
def IB(r:FR)(f:Fd):Bool:=DI (rC r.st) && DH f.aw (rC r.st).args && ai (rC r.st).defaults.length f.ki.length && Fs (eW r.st) &&
 (f.aw.all λk=>lB ((eW r.st).names.lookup (nm k)) true true false false) &&
 ((eW r.st).names.all λx=>lB (some x.2) true true false true) && qR (eW r.st) f.body (vG r.st)
def IC:List FR->List Fd->Bool
 | [],[]=>true
 |r::l,f::k=>IB r f && IC l k
 |_,_=>false
def Ly:IC fT fns=true:=by kernel_rfl
end
end Tactic
namespace Tactic
open PySem PySem.W PySem.Calls PyProof.Rows PySem.Spec Lh.Tactic
noncomputable section
variable{v:Value}{i:Int}{vs:List Value}{xs l:List V}{es:List fk}{fs:List (Nat×V)}{ps:List (Int×Value)}{b:Obj}{own:Nat->Prop}{o:Option O}
def amH:((dA 125).all λi=>(dA 125).all λj=>ai i j || !(ax (lA.getD i "") == ax (lA.getD j "")))=true:=by decide +kernel
def ano:(lA.all λx=>dU (ax x).cps.size 125)=true:=by decide +kernel
def DK:lA.length=125:=by decide +kernel
def DN{k:Nat}(h:k<125):nm k=ax (lA.getD k ""):=by
 have hk:k<lA.length:=by rw[DK];show h
 unfold nm;rw[aS hk,fQ,aS hk];rfl
def DP{k:Nat}(h:125<=k):nm k=⟨(bH k 97).toArray⟩:=by
 unfold nm;rw[di (by rw[DK];show h)]
def SJ{a b:Nat}(ha:a<125)(hb:125<=b):nm a≠nm b:=by
 intro e;have hk:a<lA.length:=by rw[DK];show ha
 have h1:=aY.mp ano lA[a] (gU hk)
 rewrite [DN ha,DP hb,fQ,aS hk] at e
 have e':ax lA[a]=⟨(bH b 97).toArray⟩:=e
 rewrite [e'] at h1
 have h2:(bH b 97).toArray.size<125:=dT h1;rw[aM,oQ] at h2;show absurd hb (Nat.not_le.mpr h2)
def BR{a b:Nat}(e:nm a=nm b):a=b:=by
 rcases dq a 125 with ha | ha<;>rcases dq b 125 with hb | hb
 ·have h1:=aY.mp (aY.mp amH a (gW.mpr ha)) b (gW.mpr hb)
  rewrite [<-DN ha,<-DN hb,e] at h1
  simp at h1;show h1
 ·show absurd e (SJ ha hb)
 ·show absurd e.symm (SJ hb ha)
 ·rewrite [DP ha,DP hb] at e
  have:=congrArg (λx:Str=>x.cps.size) e
  simpa using this
inductive VR:Value->V->Prop
 |none:VR .none .none
 |bool (b:Bool):VR (.bool b) (.bool b)
 |int (i:Int) (t:Tok):VR (.int i t) (.int i)
 |str (k:Nat) (t:Tok):VR (.str (nm k) t) (.str k)
 |ref (a:Nat):VR (.ref a) (.ref a)
class inductive bD:List Value->List V->Prop
 |nil:bD [] []
 |cons {v:Value}{x:V}{vs:List Value}{xs:List V}:VR v x->bD vs xs->bD (v::vs) (x::xs)
def VR.Fx(h:VR v (.int i)):∃t,v=.int i t:=by cases h;show⟨_,rfl⟩
def VR.apk{k:Nat}(h:VR v (.str k)):∃t,v=.str (nm k) t:=by cases h;show⟨_,rfl⟩
def VR.wJ{a:Nat}(h:VR v (.ref a)):v=.ref a:=by cases h;rfl
def VR.Lz{b:Bool}(h:VR v (.bool b)):v=.bool b:=by cases h;rfl
def VR.DQ(h:VR v .none):v=.none:=by cases h;rfl
def bD.SK(h:bD vs []):vs=[]:=by cases h;rfl
def bD.Fy{x:V}(h:bD vs (x::xs)):∃v r,vs=v::r/\VR v x/\bD r xs:=by cases h with | cons a b=>show⟨_,_,rfl,a,b⟩
def ane{α:Type}{l:List α}(h:l.length=1):∃a,l=[a]:=by
 cases l with
 |nil=>cases h
 |cons a l=>show⟨a,by rw[eu.mp (fX h)]⟩
def Fz{α:Type}{l:List α}(h:l.length=2):∃a b,l=[a,b]:=by
 cases l with
 |nil=>cases h
 |cons a l=>obtain⟨b,e⟩:=ane (fX h);show⟨a,b,by rw[e]⟩
def IE{α:Type}{l:List α}(h:l.length=3):∃a b c,l=[a,b,c]:=by
 cases l with
 |nil=>cases h
 |cons a l=>obtain⟨b,c,e⟩:=Fz (fX h);show⟨a,b,c,by rw[e]⟩
def VR.jt{x:V}(h:VR v x):∀p b c,x≠.dz p b c:=by cases h<;>intro _ _ _ e<;>cases e
def bD.len(h:bD vs xs):vs.length=xs.length:=by
 induction h with
 |nil=>rfl
 |cons _ _ ih=>simp[ih]
def bD.get(h:bD vs xs):∀{i:Nat}{x:V},xs[i]?=some x->∃v,vs[i]?=some v/\VR v x:=by
 induction h with
 |nil=>intro i x e;simp at e
 |cons h _ ih=>intro i x e;cases i with
  |zero=>simp at e;subst e;show⟨_,rfl,h⟩
  |succ i=>simp at e;obtain⟨v,e1,e2⟩:=ih e;show⟨v,by simpa using e1,e2⟩
def bD.app{ws:List Value}{ys:List V}(h:bD vs xs)(k:bD ws ys):bD (vs++ws) (xs++ys):=by
 induction h with
 |nil=>show k
 |cons h _ ih=>show .cons h ih
def bD.take(h:bD vs xs):∀n,bD (vs.take n) (xs.take n):=by
 induction h with
 |nil=>intro n;simp;show .nil
 |cons h _ ih=>intro n;cases n with
  |zero=>show .nil
  |succ n=>show .cons h (ih n)
def bD.drop(h:bD vs xs):∀n,bD (vs.drop n) (xs.drop n):=by
 induction h with
 |nil=>intro n;simp;show .nil
 |cons h t ih=>intro n;cases n with
  |zero=>show .cons h t
  |succ n=>show ih n
def bD.rev(h:bD vs xs):bD vs.reverse xs.reverse:=by
 induction h with
 |nil=>show .nil
 |cons h _ ih=>rw[sk,sk];show ih.app (.cons h .nil)
def bD.set(h:bD vs xs){x:V}(hv:VR v x):∀n,bD (vs.set n v) (xs.set n x):=by
 induction h with
 |nil=>intro n;show .nil
 |cons h t ih=>intro n;cases n with
  |zero=>show .cons hv t
  |succ n=>show .cons h (ih n)
def bD.snoc_inv{x:V}(h:bD vs (xs++[x])):∃ws v,vs=ws++[v]/\bD ws xs/\VR v x:=by
 induction xs generalizing vs with
 |nil=>cases h with | cons h t=>cases t;show⟨[],_,rfl,.nil,h⟩
 |cons y ys ih=>cases h with | cons h t=>obtain⟨ws,v,rfl,h1,h2⟩:=ih t;show⟨_::ws,v,rfl,.cons h h1,h2⟩
class inductive Fl:List fk->List (Nat×V)->Prop
 |nil:Fl [] []
 |cons {e:fk}{k:Nat}{t:Tok}{x:V}{es:List fk}{fs:List (Nat×V)}:e.key=.str (nm k) t->VR e.val x->Fl es fs->Fl (e::es) ((k,x)::fs)
def SM{k j:Nat}{t:Tok}:(Value.str (nm k) t).isStr (nm j)=ai k j:=by
 show(nm k == nm j)=_;cases h:ai k j with
 |true=>rw[bL h];simp
 |false=>simp only[beq_eq_false_iff_ne];intro e;rewrite [BR e] at h;simp at h
def Fl.len(h:Fl es fs):es.length=fs.length:=by
 induction h with
 |nil=>rfl
 |cons _ _ _ ih=>simp[ih]
def Fl.noRef(h:Fl es fs):es.any (·.refKey)=false:=by
 induction h with
 |nil=>rfl
 |cons e _ _ ih=>
  rw[pg,ih,Bool.or_false];unfold DictEntry.refKey;rw[e]
def Fl.get(h:Fl es fs)(k:Nat):(∃v x,getL (nm k) es=some (some v)/\lk fs k=some x/\VR v x)\/(getL (nm k) es=some none/\lk fs k=none):=by
 induction h with
 |nil=>show .inr ⟨rfl,rfl⟩
 |cons e hv t ih=>
  rename_i en j tk x es fs;have hb:en.key.isStr (nm k)=ai j k:=by rw[e];show SM
  cases hj:ai j k with
  |true=>
   exact .inl ⟨en.val,x,?_,?_,hv⟩
   ·unfold getL;rw[fV,hb,hj]
   ·show(match ai j k with | true=>some x | false=>lk fs k)=some x;rw[hj]
  |false=>
   have h1:getL (nm k) (en::es)=getL (nm k) es:=by
    unfold getL;rw[fV,hb,hj];have:en.refKey=false:=by unfold DictEntry.refKey;rw[e]
    rw[pg,this,Bool.false_or]
   have h2:lk ((j,x)::fs) k=lk fs k:=by show(match ai j k with | true=>some x | false=>lk fs k)=_;rw[hj]
   rw[h1,h2];show ih
def Fl.put(h:Fl es fs){k:Nat}{hs:Int}{t:Tok}{x:V}(hv:VR v x):Fl (putL (nm k) hs (.str (nm k) t) v es) (up fs k x):=by
 induction h with
 |nil=>show .cons rfl hv .nil
 |cons e qg tl ih=>
  rename_i en j tk y es fs;have hb:en.key.isStr (nm k)=ai j k:=by rw[e];show SM
  show Fl (if en.key.isStr (nm k) then _ else _) (match ai j k with | true=>(j,x)::fs | false=>(j,y)::up fs k x)
  rw[hb];cases hj:ai j k with
  |true=>show .cons e hv tl
  |false=>show .cons e qg ih
class inductive Kv:List (Int×Value)->List (Int×V)->Prop
 |nil:Kv [] []
 |cons {i:Int}{v:Value}{x:V}{ps:List (Int×Value)}{es:List (Int×V)}:VR v x->Kv ps es->Kv ((i,v)::ps) ((i,x)::es)
def Kv.len{es:List (Int×V)}(h:Kv ps es):ps.length=es.length:=by
 induction h with
 |nil=>rfl
 |cons _ _ ih=>simp[ih]
def Kv.keys{es:List (Int×V)}(h:Kv ps es):ps.map (·.1)=es.map (·.1):=by
 induction h with
 |nil=>rfl
 |cons _ _ ih=>simp[ih]
def Kv.at{es:List (Int×V)}(h:Kv ps es){x:V}(e:fB es i=some x):∃v,pG ps i=some v/\VR v x:=by
 induction h with
 |nil=>cases e
 |cons hv tl ih=>
  rename_i j v y ps es;dsimp only[fB] at e;unfold pG;by_cases hj:j=i
  ·nomatch if_pos hj,e;show⟨v,by simp[fV,hj],hv⟩
  ·rewrite [if_neg hj] at e
   obtain⟨v',e1,e2⟩:=ih e;show⟨v',by rw[fV];simp only[hj,decide_false];show e1,e2⟩
def Kv.put{es:List (Int×V)}(h:Kv ps es)(nd:(ps.map (·.1)).Nodup){k:Int}{x:V}(hv:VR v x):Kv (kJ ps k v) (dup es k x):=by
 induction h with
 |nil=>show .cons hv .nil
 |cons qg t ih=>
  rename_i j w y ps es
  rewrite [bQ,aX] at nd
  dsimp only[dup];by_cases hj:j=k
  ·subst hj;rw[if_pos rfl];unfold kJ;have h1:(((j,w)::ps).any λkv=>decide (kv.1=j))=true:=by simp
   rw[if_pos h1,bQ,if_pos rfl];have h2:ps.map (λkv=>if kv.1=j then (kv.1,v) else kv)=ps:=by
    conv=>rhs;rw[<-List.map_id ps]
    exact yD λp hp=>?_;have:p.1≠j:=λe=>nd.1 (aQ.mpr ⟨p,hp,e⟩);simp[this]
   rw[h2];show .cons hv t
  ·rw[if_neg hj];have FC:=ih nd.2;unfold kJ at FC ⊢;have h1:(((j,w)::ps).any λkv=>decide (kv.1=k))=(ps.any λkv=>decide (kv.1=k)):=by simp[hj]
   rw[h1];split
   ·rename_i hh
    rewrite [if_pos hh] at FC
    rw[bQ,if_neg hj];show .cons qg FC
   ·rename_i hh
    rewrite [if_neg hh] at FC
    show .cons qg FC
section
variable(J:Program)(w:aK)(bz:Heap)
abbrev gh(vs:List Value)(n:Nat):Obj:={ cls:=.type "list",data:=.seq vs.toArray n}
abbrev DR(c d:Nat)(sl:Array (Option Value)):Obj:=⟨.ref (fC c),some d,.plain,sl⟩
inductive OR(h:Heap)(a:Nat):O->Prop
 |inst {c d:Nat}{es:List fk}{n:Nat}{sl:Array (Option Value)}{fs:List (Nat×V)}:h.get? a=some (DR c d sl)->h.get? d=some (dictOf es n)->Fl es fs->OR h a (.inst c fs)
 |lst {vs:List Value}{n:Nat}{xs:List V}:h.get? a=some (gh vs n)->bD vs xs->xs.length<=200000->OR h a (.lst xs)
 |fL {vs:List Value}{xs:List V}:h.IsList a vs.toArray->bD vs xs->xs.length<=200000->OR h a (.fL xs)
 |tup {vs:List Value}{xs:List V}:IsTup h a vs.toArray->bD vs xs->xs.length<=200000->OR h a (.tup xs)
 |cu {ps:List (Int×Value)}{es:List (Int×V)}{ep:Nat}:h.DictAt (bT J w) a ps ep->Kv ps es->OR h a (.cu es ep)
def O.mut:O->Bool
 | .inst _ _=>true
 | .lst _=>true
 | .cu _ _=>true
 |_=>false
def dh(Y:So)(h:Heap)(a d:Nat):Prop:=∃c fs ox,Y a=some (.inst c fs)/\h.get? a=some ox/\ox.dict=some d
def tabs:List (Nat×Nat×String):=(fT.zip tP).map λp=>(p.1.cd,p.2,p.1.ql)
def FD(q:String):Str:=ax q++".<locals>."++"<lambda>"
def FE(b:Nat):Prop:=∃t∈tabs,b=t.2.1
def uH(h:Heap)(P:Nat)(q:String):Prop:=∃ps:Array Value,h.get? P=some (hZ ps)/\pO ps.toList/\∀pos cv,kH pos ps.toList=some cv->h.CodeRec cv (FD q)
def bu(Y:So)(h:Heap)(b:Nat):Prop:=(∃o,Y b=some o/\o.mut=true)\/(∃a,dh Y h a b)\/FE b
def Aj(o:Obj):Prop:=∃vs q t,o.data=.fields vs/\vs[1]?=some (.str q t)
structure Inv(Y:So)(h:Heap):Prop where
 stays:bz.StaysIn h
 rep:∀a o,Y a=some o->OR J w h a o
 old:∀b o,bz.get? b=some o->¬ bu Y h b
 sep:∀a d,dh Y h a d->Y d=none
 inj:∀a b d,dh Y h a d->dh Y h b d->a=b
 tab:∀t∈tabs,uH h t.2.1 t.2.2
def Up(o o':Obj):Prop:=o'=o\/((∃es ep,o.data=.dict es ep)/\∃sl,o'={ o with slots:=sl})
def Up.trans{a c:Obj}(x:Up a b)(y:Up b c):Up a c:=by
 rcases x with rfl | ⟨hd,sl,rfl⟩
 ·show y
 ·rcases y with rfl | ⟨_,SN,rfl⟩
  ·show .inr ⟨hd,sl,rfl⟩
  ·show .inr ⟨hd,SN,rfl⟩
def Up.cls{a:Obj}(x:Up a b):b.cls=a.cls:=by rcases x with rfl | ⟨_,_,rfl⟩<;>rfl
def Up.data{a:Obj}(x:Up a b):b.data=a.data:=by rcases x with rfl | ⟨_,_,rfl⟩<;>rfl
def Up.show{a:Obj}(x:Up a b)(n:∀es ep,a.data≠.dict es ep):b=a:=by
 rcases x with e | ⟨⟨es,ep,hd⟩,_⟩
 ·show e
 ·show absurd hd (n es ep)
structure Step(own:Nat->Prop)(Y Y':So)(h h':Heap):Prop where
 kp:∀b o,h.get? b=some o->∃o',h'.get? b=some o'
 st:∀b o,h.get? b=some o->¬ bu Y h b->∃o',h'.get? b=some o'/\¬ bu Y' h' b/\(own b\/Up o o')
 nw:∀b o,h.get? b=some o->Y b=none->Y' b=none
def nil:Nat->Prop:=λ_=>False
theorem Step.refl{Y:So}{h:Heap}:Step own Y Y h h:=⟨λb o e=>⟨o,e⟩,λb o e n=>⟨o,e,n,.inr (.inl rfl)⟩,λb o e n=>n⟩
theorem Step.trans{Y1 Ym Y3:So}{h1 hm h3:Heap}(x:Step own Y1 Ym h1 hm)(y:Step own Ym Y3 hm h3):Step own Y1 Y3 h1 h3:=⟨λb o e=>let ⟨o',e'⟩:=x.kp b o e;y.kp b o' e',λb o e n=>by
 obtain⟨o2,e2,n2,u2⟩:=x.st b o e n;obtain⟨o3,e3,n3,u3⟩:=y.st b o2 e2 n2;exact⟨o3,e3,n3,?_⟩;rcases u2 with u | u
 ·show .inl u
 ·rcases u3 with v | v
  ·show .inl v
  ·show .inr (u.trans v),λb o e n=>let ⟨o',e'⟩:=x.kp b o e;y.nw b o' e' (x.nw b o e n)⟩
theorem Step.mono{uI:Nat->Prop}{Y Y':So}{h h':Heap}(x:Step own Y Y' h h')(k:∀b o,h.get? b=some o->own b->uI b):Step uI Y Y' h h':=⟨x.kp,λb o e n=>by
 obtain⟨o',e',n',u⟩:=x.st b o e n;show⟨o',e',n',u.imp (k b o e) id⟩,x.nw⟩
def bD.two{j:Int}(h:bD vs [.int i,.int j]):∃t u,vs=[.int i t,.int j u]:=by
 obtain _ | ⟨q1,_ | ⟨q2,_ | _⟩⟩:=h;obtain⟨t,rfl⟩:=q1.Fx;obtain⟨u,rfl⟩:=q2.Fx;show⟨t,u,rfl⟩
def At(own:Nat->Prop)(Y0:So)(s0:Shared)(Y:So)(s:Shared):Prop:=(∃h tk,s={ s0 with heap:=h,toks:=tk})/\Inv J w bz Y s.heap/\Step own Y0 Y s0.heap s.heap
end
@[elab_as_elim] def a8{x:V}{p:Int->Prop}{P:V->Value->Prop}(h:d8 x p)(hv:VR v x)(k:∀i t,p i->P (.int i) (.int i t)):P x v:=by
 cases hv<;>first | show k _ _ h | show h.elim
@[elab_as_elim] def bV{x:V}{p:Nat->Prop}{P:V->Value->Prop}(h:fN x p)(hv:VR v x)(k:∀a,p a->P (.ref a) (.ref a)):P x v:=by
 cases hv<;>first | show k _ h | show h.elim
@[elab_as_elim] def Ak{x:V}{p:Prop}{q:Int->Prop}{P:V->Value->Prop}(h:KG x p q)(hv:VR v x)(k:p->P .none .none)(l:∀i t,q i->P (.int i) (.int i t)):P x v:=by
 cases hv<;>first | show k h | show l _ _ h | show h.elim
def rJ{p:List V->Prop}(h:m9 o p):∃xs,o=some (.lst xs)/\p xs:=by
 induction o using dr
 ·show h.elim
 ·rename_i o;induction o using O.casesOn<;>first | show⟨_,rfl,h⟩ | show h.elim
def IG{p:List V->Prop}(h:vH o p):∃xs,o=some (.tup xs)/\p xs:=by
 induction o using dr
 ·show h.elim
 ·rename_i o;induction o using O.casesOn<;>first | show⟨_,rfl,h⟩ | show h.elim
def LC{p:Nat->List (Nat×V)->Prop}(h:E8 o p):∃c fs,o=some (.inst c fs)/\p c fs:=by
 induction o using dr
 ·show h.elim
 ·rename_i o;induction o using O.casesOn<;>first | show⟨_,_,rfl,h⟩ | show h.elim
def apm{p:List (Int×V)->Nat->Prop}(h:KJ o p):∃es ep,o=some (.cu es ep)/\p es ep:=by
 induction o using dr
 ·show h.elim
 ·rename_i o;induction o using O.casesOn<;>first | show⟨_,_,rfl,h⟩ | show h.elim
def II{p:List (Int×V)->Nat->Prop}{q:List V->Prop}(h:Bw o p q):(∃es ep,o=some (.cu es ep)/\p es ep)\/∃xs,o=some (.lst xs)/\q xs:=by
 induction o using dr
 ·show h.elim
 ·rename_i o;induction o using O.casesOn<;>first | show .inl ⟨_,_,rfl,h⟩ | show .inr ⟨_,rfl,h⟩ | show h.elim
def aoU{p q:List V->Prop}{r:List (Int×V)->Prop}(h:E9 o p q r):(∃xs,o=some (.lst xs)/\p xs)\/(∃xs,o=some (.tup xs)/\q xs)\/∃es ep,o=some (.cu es ep)/\r es:=by
 induction o using dr
 ·show h.elim
 ·rename_i o;induction o using O.casesOn<;>first | show .inl ⟨_,rfl,h⟩ | show .inr (.inl ⟨_,rfl,h⟩) | show .inr (.inr ⟨_,_,rfl,h⟩) | show h.elim
def SQ{p:List V->Prop}(h:wz o p):∃xs,(o=some (.lst xs)\/o=some (.tup xs)\/o=some (.fL xs))/\p xs:=by
 induction o using dr
 ·show h.elim
 ·rename_i o;induction o using O.casesOn<;>first | show⟨_,.inl rfl,h⟩ | show⟨_,.inr (.inl rfl),h⟩ | show⟨_,.inr (.inr rfl),h⟩ | show h.elim
def anT{p:List V->Prop}(h:Ip o p):∃xs,(o=some (.lst xs)\/o=some (.tup xs))/\p xs:=by
 induction o using dr
 ·show h.elim
 ·rename_i o;induction o using O.casesOn<;>first | show⟨_,.inl rfl,h⟩ | show⟨_,.inr rfl,h⟩ | show h.elim
def vR{α:Type}{o:Option α}{p:α->Prop}(h:qc o p):∃x,o=some x/\p x:=by
 induction o using dr
 ·show h.elim
 ·show⟨_,rfl,h⟩
def aoL{o:Option V}{p:Prop}(h:QW o p):o=none/\p:=by
 induction o using dr
 ·show⟨rfl,h⟩
 ·show h.elim
def aoX{o:Option V}{p:List Nat->E->List (Nat×V)->Prop}(h:QX o p):∃a b c,o=some (.dz a b c)/\p a b c:=by
 induction o using dr
 ·show h.elim
 ·rename_i o;induction o using V.casesOn<;>first | show⟨_,_,_,rfl,h⟩ | show h.elim
def Al{b:Bool}{p:Prop}(h:vJ b p):b=true/\p:=by
 induction b using Bool.casesOn
 ·show h.elim
 ·show⟨rfl,h⟩
def ao4{α:Type}{l:List α}{p:Prop}(h:QY l p):l=[]/\p:=by
 induction l using cU
 ·show⟨rfl,h⟩
 ·show h.elim
@[elab_as_elim] def Am{p:Prop}{P:List V->List Value->Prop}(h:KH l p)(r:bD vs l)(k:p->P [] []):P l vs:=by
 cases r with
 |nil=>show k h
 |cons _ _=>show h.elim
@[elab_as_elim] def gi{p:V->Prop}{P:List V->List Value->Prop}(h:gu l p)(r:bD vs l)(k:∀x v,VR v x->p x->P [x] [v]):P l vs:=by
 cases r with
 |nil=>show h.elim
 |cons a r=>cases r with
  |nil=>show k _ _ a h
  |cons _ _=>show h.elim
@[elab_as_elim] def An{p:V->V->Prop}{P:List V->List Value->Prop}(h:jQ l p)(r:bD vs l)(k:∀x v y u,VR v x->VR u y->p x y->P [x,y] [v,u]):P l vs:=by
 cases r with
 |nil=>show h.elim
 |cons a r=>show gi (P:=λl vs=>P (_::l) (_::vs)) h r λy u b h=>k _ _ y u a b h
def alv{t:List Nat}{v:V}{m:Env}{K:Env->Prop}{s:So}(h:jI t v m K s):(∃x,t=[x]/\K (up m x v))\/(fN v λa=>vH (s a) λxs=>xs.length=t.length/\K ((t.zip xs).foldl (λm p=>up m p.1 p.2) m)):=by
 induction t using cU
 ·show .inr h
 ·rename_i x t;induction t using cU
  ·show .inl ⟨x,rfl,h⟩
  ·show .inr h
def apw{v:V}{p q:Nat->Prop}(h:fN v p)(k:∀a,v=.ref a->p a->q a):fN v q:=by
 induction v using V.casesOn<;>first | show h.elim | show k _ rfl h
def aoI{p q:List V->Prop}(h:vH o p)(k:∀xs,o=some (.tup xs)->p xs->q xs):vH o q:=by
 obtain⟨xs,rfl,h⟩:=IG h;show k _ rfl h
def LJ{t:List Nat}{v:V}{m m':Env}{K K':Env->Prop}{s:So}(h:jI t v m K s)(k1:∀x,t=[x]->K (up m x v)->K' (up m' x v))(k2:∀a xs,v=.ref a->s a=some (.tup xs)->xs.length=t.length->K ((t.zip xs).foldl (λm p=>up m p.1 p.2) m)->K' ((t.zip xs).foldl (λm p=>up m p.1 p.2) m')):jI t v m' K' s:=by
 have r:=λh:fN v λa=>vH (s a) λxs=>xs.length=t.length/\K ((t.zip xs).foldl (λm p=>up m p.1 p.2) m)=>apw (q:=λa=>vH (s a) λxs=>xs.length=t.length/\K' ((t.zip xs).foldl (λm p=>up m p.1 p.2) m')) h λa e h=>aoI h λxs e' h=>⟨h.1,k2 a xs e e' h.1 h.2⟩;clear k2;induction t using cU
 ·show r h
 ·rename_i x t;induction t using cU
  ·show k1 x rfl h
  ·show r h
end
end Tactic
namespace Tactic
open PySem PySem.W PySem.Calls PyProof.Rows PySem.Spec Lh.Tactic
noncomputable section
variable{J:Program}{w:aK}{bz:Heap}
set_option tactic.hygienic false
variable{Y Y0:So}{o:O}{b tk:Nat}{h h':Heap}{own:Nat->Prop}{s:Shared}
def IJ{a:Nat}:put Y a o a=some o:=by show(match ai a a with | true=>some o | false=>Y a)=_;rw[my]
def ig{a:Nat}(h:b≠a):put Y a o b=Y b:=by
 show(match ai b a with | true=>some o | false=>Y b)=_
 cases e:ai b a with
 |true=>show absurd (bL e) h
 |false=>rfl
def lK{a:Nat}{o':O}(h:put Y a o b=some o'):(b=a/\o'=o)\/(b≠a/\Y b=some o'):=by
 by_cases e:b=a
 ·subst e;nomatch IJ,h;show .inl ⟨rfl,rfl⟩
 ·rewrite [ig e] at h;show .inr ⟨e,h⟩
theorem LK{a:Nat}{ps:List (Int×Value)}(x:h.DictOf (bT J w) a ps)(e:∀o,h.get? a=some o->h'.get? a=some o):h'.DictOf (bT J w) a ps:=
 by obtain⟨o,es,ep,ho,r⟩:=x;show⟨o,es,ep,e _ ho,r⟩
def OR.here{a:Nat}(x:OR J w h a o):∃ob,h.get? a=some ob:=by
 cases x with
 |inst e _ _=>show⟨_,e⟩
 |lst e _ _=>show⟨_,e⟩
 |fL e _ _=>obtain⟨o,e,_⟩:=e;show⟨o,e⟩
 |tup e _ _=>obtain⟨o,e,_⟩:=e;show⟨o,e⟩
 |cu e _=>obtain⟨o,_,e,_⟩:=e;show⟨o,e⟩
def OR.keeps{a:Nat}(x:OR J w h a o)(k:∀ob,h.get? a=some ob->h'.get? a=some ob)(kd:∀ob d od,h.get? a=some ob->ob.dict=some d->h.get? d=some od->(∃c fs,o=.inst c fs)->h'.get? d=some od):OR J w h' a o:=by
 cases x with
 |inst e ed f=>show .inst (k _ e) (kd _ _ _ e rfl ed ⟨_,_,rfl⟩) f
 |lst e v b=>show .lst (k _ e) v b
 |fL e v b=>obtain⟨o,e,r⟩:=e;show .fL ⟨o,k _ e,r⟩ v b
 |tup e v b=>obtain⟨o,e,r⟩:=e;show .tup ⟨o,k _ e,r⟩ v b
 |cu e v=>show .cu (let ⟨o,es,ho,r⟩:=e;⟨o,es,k _ ho,r⟩) v
def Inv.unset(I:Inv J w bz Y h){c:Nat}(hc:h.get? c=none):Y c=none:=by
 cases e:Y c with
 |none=>rfl
 |some o=>obtain⟨ob,e'⟩:=(I.rep c o e).here;nomatch hc,e'
def Inv.dat(I:Inv J w bz Y h){a d:Nat}(x:dh Y h a d):∃od,h.get? d=some od:=by
 obtain⟨c,fs,ox,e,hx,hd⟩:=x;cases I.rep a _ e with
 |inst e' ed f=>nomatch hx,e';cases hd;show⟨_,ed⟩
def tab_keep{P:Nat}{q:String}(x:uH h P q)(e:h'.get? P=h.get? P)(k:∀b o,h.get? b=some o->Aj o->h'.get? b=some o):uH h' P q:=by
 obtain⟨ps,e1,e2,e3⟩:=x;exact⟨ps,e.trans e1,e2,λpos cv e=>?_⟩;obtain⟨c,o,vs,t,e4,e5,e6,e7⟩:=e3 pos cv e;show⟨c,o,vs,t,e4,k c o e5 ⟨vs,_,t,e6,e7⟩,e6,e7⟩
def Inv.FG(I:Inv J w bz Y h){a:Nat}(e:Y a=some o):¬ FE a:=by
 rintro⟨t,ht,rfl⟩;obtain⟨ps,e1,_⟩:=I.tab t ht;cases I.rep _ _ e with
 |inst e' _ _=>nomatch e1,e'
 |lst e' _ _=>nomatch e1,e'
 |fL e' _ _=>obtain⟨o,e',h2,n,h3⟩:=e';nomatch e1,e';cases h3
 |tup e' _ _=>obtain⟨o,e',h2,n,h3⟩:=e';nomatch e1,e';cases h3
 |cu e' _=>obtain⟨o,es,e',_,h3,_⟩:=e';nomatch e1,e';cases h3
def Inv.IK(I:Inv J w bz Y h){a d:Nat}(x:dh Y h a d):∃es n,h.get? d=some (dictOf es n):=by
 obtain⟨c,fs,ox,e,hx,hd⟩:=x;cases I.rep a _ e with
 |inst e' ed f=>nomatch hx,e';cases hd;show⟨_,_,ed⟩
def Inv.SR(I:Inv J w bz Y h){a d:Nat}(x:dh Y h a d):¬ FE d:=by
 rintro⟨t,ht,rfl⟩;obtain⟨ps,e1,_⟩:=I.tab t ht;obtain⟨es,n,e'⟩:=I.IK x
 nomatch e1,e'
def OR.SV{a:Nat}{ob:Obj}(x:OR J w h a o)(e:h.get? a=some ob):¬ Aj ob:=by
 rintro⟨vs,q,t,hd,_⟩;cases x with
 |inst e' _ _=>nomatch e,e';cases hd
 |lst e' _ _=>nomatch e,e';cases hd
 |fL e' _ _=>obtain⟨o,e',h2,n,h3⟩:=e';nomatch e,e';nomatch h3,hd
 |tup e' _ _=>obtain⟨o,e',h2,n,h3⟩:=e';nomatch e,e';nomatch h3,hd
 |cu e' _=>obtain⟨o,es,e',_,h3,_⟩:=e';nomatch e,e';nomatch h3,hd
theorem Inv.DS(I:Inv J w bz Y h):Y h.objs.size=none:=I.unset (by
 cases e:h.get? h.objs.size with
 |none=>rfl
 |some o=>show absurd (bM e) (kC _))
def nY(h:Heap):h.get? h.objs.size=none:=by
 cases e:h.get? h.objs.size with
 |none=>rfl
 |some o=>show absurd (bM e) (kC _)
abbrev Grows(h h':Heap):Prop:=∀b o,h.get? b=some o->h'.get? b=some o
def dh.grow(I:Inv J w bz Y h)(k:Grows h h'){a d:Nat}:dh Y h' a d↔dh Y h a d:=by
 constructor
 ·rintro⟨c,fs,ox,e,hx,hd⟩;obtain⟨ob,e'⟩:=(I.rep a _ e).here;have:=k _ _ e'
  nomatch hx,this
  show⟨c,fs,ox,e,e',hd⟩
 ·rintro⟨c,fs,ox,e,hx,hd⟩;show⟨c,fs,ox,e,k _ _ hx,hd⟩
def bu.grow(I:Inv J w bz Y h)(k:Grows h h'):bu Y h' b↔bu Y h b:=by
 unfold bu;simp only[dh.grow I k]
theorem Inv.grow(I:Inv J w bz Y h)(k:Grows h h'):Inv J w bz Y h' where
 stays:=λb o e=>k b o (I.stays b o e)
 rep:=λa o e=>(I.rep a o e).keeps (λob=>k a ob) (λob d od _ _ e' _=>k d od e')
 old:=λb o e m=>I.old b o e ((bu.grow I k).mp m)
 sep:=λa d x=>I.sep a d ((dh.grow I k).mp x)
 inj:=λa b d x y=>I.inj a b d ((dh.grow I k).mp x) ((dh.grow I k).mp y)
 tab:=λt ht=>tab_keep (I.tab t ht) (by obtain⟨ps,e,_⟩:=I.tab t ht;rw[e];show k _ _ e) λb o e _=>k b o e
theorem Step.grow(I:Inv J w bz Y h)(k:Grows h h'):Step own Y Y h h':=⟨λb o e=>⟨o,k b o e⟩,λb o e n=>⟨o,k b o e,λm=>n ((bu.grow I k).mp m),.inr (.inl rfl)⟩,λb o e n=>n⟩
theorem At.refl(I:Inv J w bz Y s.heap):At J w bz own Y s Y s:=⟨⟨s.heap,s.toks,rfl⟩,I,.refl⟩
def At.trans{Y1 Y2:So}{s0 s1 s2:Shared}(x:At J w bz own Y0 s0 Y1 s1)(y:At J w bz own Y1 s1 Y2 s2):At J w bz own Y0 s0 Y2 s2:=by
 obtain⟨⟨h,tk,e⟩,I,S⟩:=x;obtain⟨⟨h',tk',e'⟩,I',S'⟩:=y;exact⟨⟨h',tk',?_⟩,I',S.trans S'⟩;rw[e',e]
theorem At.mono{uI:Nat->Prop}{s0:Shared}(x:At J w bz own Y0 s0 Y s)(k:∀b o,s0.heap.get? b=some o->own b->uI b):At J w bz uI Y0 s0 Y s:=⟨x.1,x.2.1,x.2.2.mono k⟩
def At.grow{s0:Shared}(x:At J w bz own Y0 s0 Y s)(k:Grows s.heap h'):At J w bz own Y0 s0 Y { s with heap:=h',toks:=tk}:=by
 obtain⟨⟨h,t,e⟩,I,S⟩:=x;exact⟨⟨h',tk,by rw[e]⟩,I.grow k,S.trans (.grow I k)⟩
theorem At.toks{s0:Shared}(x:At J w bz own Y0 s0 Y s):At J w bz own Y0 s0 Y { s with toks:=tk}:=x.grow λ_ _ e=>e
def O.LN:O->Bool
 | .inst _ _=>true
 |_=>false
def At.store{s0:Shared}{a:Nat}{o':O}(x:At J w bz own Y0 s0 Y s)(ho:Y a=some o)(hm:o.mut=true)(hi:o.LN=false)(jJ:o'.mut=true)(uJ:o'.LN=false)
  (k:jg a s.heap h') (r:OR J w h' a o'):At J w bz own Y0 s0 (put Y a o') { s with heap:=h',toks:=tk}:=by
 obtain⟨⟨h,t,e⟩,I,S⟩:=x;have ni:∀c fs,o≠.inst c fs:=λc fs e=>by subst e;cases hi
 have ni':∀c fs,o'≠.inst c fs:=λc fs e=>by subst e;cases uJ
 have nd:∀b d,dh Y s.heap b d->d≠a:=λb d hd e=>by have:=I.sep b d hd;nomatch e,ho,this
 have da:∀b d,dh (put Y a o') h' b d↔dh Y s.heap b d:=by
  intro b d;constructor
  ·rintro⟨c,fs,ox,e,hx,hd⟩;rcases lK e with⟨rfl,e'⟩ | ⟨aU,e'⟩
   ·show absurd e'.symm (ni' _ _)
   ·show⟨c,fs,ox,e',(k.2 b aU) ▸ hx,hd⟩
  ·rintro⟨c,fs,ox,e,hx,hd⟩;have aU:b≠a:=λq=>by subst q;rewrite [ho] at e;show ni _ _ (bR e)
   show⟨c,fs,ox,by rw[ig aU];show e,(k.2 b aU).trans hx,hd⟩
 have mu:∀b,bu (put Y a o') h' b↔bu Y s.heap b:=by
  intro b;unfold bu;simp only[da];constructor
  ·rintro(⟨q,e,m⟩ | y)
   ·rcases lK e with⟨rfl,_⟩ | ⟨_,e'⟩
    ·show .inl ⟨o,ho,hm⟩
    ·show .inl ⟨q,e',m⟩
   ·show .inr y
  ·rintro(⟨q,e,m⟩ | y)
   ·by_cases hb:b=a
    ·subst hb;show .inl ⟨o',IJ,jJ⟩
    ·show .inl ⟨q,by rw[ig hb];show e,m⟩
   ·show .inr y
 have ma:bu Y s.heap a:=.inl ⟨o,ho,hm⟩;exact⟨⟨h',tk,by rw[e]⟩,⟨λb ob e=>?_,λb q e=>?_,λb ob e m=>I.old b ob e ((mu b).mp m),λb d y=>?_,λb c d y z=>I.inj b c d ((da _ _).mp y) ((da _ _).mp z),λt ht=>tab_keep (I.tab t ht) (k.2 _ λq=>I.FG ho ⟨t,ht,q.symm⟩) λb ob e r=>(k.2 b λq=>(I.rep _ _ ho).SV (q ▸ e) r).trans e⟩,S.trans ⟨λb o e=>(lS (b=a)).elim (λq=>q ▸ r.here) λq=>⟨o,(k.2 b q).trans e⟩,λb ob e n=>?_,λb ob e n=>(ig λq=>by subst q;nomatch ho,n).trans n⟩⟩
 ·show(k.2 b λq=>I.old b ob e (q ▸ ma)).trans (I.stays b ob e)
 ·rcases lK e with⟨rfl,rfl⟩ | ⟨aU,e'⟩
  ·show r
  ·exact(I.rep b q e').keeps (λob z=>(k.2 b aU).trans z) λob d od z zd zo hq=>?_;obtain⟨c,fs,rfl⟩:=hq;show(k.2 d (nd b d ⟨c,fs,ob,e',z,zd⟩)).trans zo
 ·have y':=(da _ _).mp y;rw[ig (nd b d y')];show I.sep b d y'
 ·show⟨ob,(k.2 b λq=>n (q ▸ ma)).trans e,λm=>n ((mu b).mp m),.inr (.inl rfl)⟩
def At.SW{s0:Shared}{a c d:Nat}{fs fs':List (Nat×V)}{sl:Array (Option Value)}{es:List fk}{n:Nat}(x:At J w bz own Y0 s0 Y s)(ho:Y a=some (.inst c fs))(hx:s.heap.get? a=some (DR c d sl))
  (k:jg d s.heap h') (hd:h'.get? d=some (dictOf es n)) (f:Fl es fs'):At J w bz own Y0 s0 (Tactic.put Y a (.inst c fs')) { s with heap:=h',toks:=tk}:=by
 obtain⟨⟨h,t,e⟩,I,S⟩:=x;have uK:dh Y s.heap a d:=⟨c,fs,_,ho,hx,rfl⟩;have sd:Y d=none:=I.sep a d uK;have ne:∀b o,Y b=some o->b≠d:=λb o e q=>by nomatch q,sd,e
 have da:∀b d',dh (Tactic.put Y a (.inst c fs')) h' b d'↔dh Y s.heap b d':=by
  intro b d';constructor
  ·rintro⟨c',wK,ox,e,ju,gw⟩;rcases lK e with⟨rfl,e'⟩ | ⟨aU,e'⟩
   ·show⟨c,fs,ox,ho,(k.2 _ (ne _ _ ho)) ▸ ju,gw⟩
   ·show⟨c',wK,ox,e',(k.2 _ (ne _ _ e')) ▸ ju,gw⟩
  ·rintro⟨c',wK,ox,e,ju,gw⟩;have FH:=(k.2 b (ne _ _ e)).trans ju;by_cases hb:b=a
   ·subst hb;show⟨c,fs',ox,IJ,FH,gw⟩
   ·show⟨c',wK,ox,by rw[ig hb];show e,FH,gw⟩
 have mu:∀b,bu (Tactic.put Y a (.inst c fs')) h' b↔bu Y s.heap b:=by
  intro b;unfold bu;simp only[da];constructor
  ·rintro(⟨q,e,m⟩ | y)
   ·clear da hx;rcases lK e with⟨rfl,_⟩ | ⟨_,e'⟩
    ·show .inl ⟨_,ho,rfl⟩
    ·show .inl ⟨q,e',m⟩
   ·show .inr y
  ·rintro(⟨q,e,m⟩ | y)
   ·by_cases hb:b=a
    ·subst hb;show .inl ⟨_,IJ,rfl⟩
    ·show .inl ⟨q,by rw[ig hb];show e,m⟩
   ·show .inr y
 have md:bu Y s.heap d:=.inr (.inl ⟨a,uK⟩);exact⟨⟨h',tk,by rw[e]⟩,⟨λb ob e=>?_,λb q e=>?_,λb ob e m=>I.old b ob e ((mu b).mp m),λb d' y=>?_,λb c' d' y z=>I.inj b c' d' ((da _ _).mp y) ((da _ _).mp z),λt ht=>tab_keep (I.tab t ht) (k.2 _ λq=>I.SR uK ⟨t,ht,q.symm⟩) λb ob e r=>(k.2 b λq=>by
  obtain⟨fG,n',e'⟩:=I.IK uK;obtain⟨vs,_,_,gw,_⟩:=r;clear hd hx ne sd;subst q;nomatch e',e;cases gw).trans e⟩,S.trans ⟨λb o e=>(lS (b=d)).elim (λq=>q ▸ ⟨_,hd⟩) λq=>⟨o,(k.2 b q).trans e⟩,λb ob e nn=>?_,λb ob e n=>(ig λq=>by clear da hx mu;subst q;nomatch ho,n).trans n⟩⟩
 ·show(k.2 b λq=>I.old b ob e (q ▸ md)).trans (I.stays b ob e)
 ·rcases lK e with⟨rfl,rfl⟩ | ⟨aU,e'⟩
  ·show .inst ((k.2 _ (ne _ _ ho)).trans hx) hd f
  ·exact(I.rep b q e').keeps (λob z=>(k.2 b (ne _ _ e')).trans z) λob d' od z zd zo hq=>?_;obtain⟨c',wK,rfl⟩:=hq;show(k.2 d' λq=>aU (I.inj b a d ⟨c',wK,ob,e',z,q ▸ zd⟩ uK)).trans zo
 ·have y':=(da _ _).mp y;have:d'≠a:=λq=>by have:=I.sep b d' y';nomatch q,ho,this
  rw[ig this];show I.sep b d' y'
 ·show⟨ob,(k.2 b λq=>nn (q ▸ md)).trans e,λm=>nn ((mu b).mp m),.inr (.inl rfl)⟩
def At.add{s0:Shared}{a:Nat}(x:At J w bz own Y0 s0 Y s)(hn:s.heap.get? a=none)(hi:o.LN=false)(k:Grows s.heap h')(r:OR J w h' a o) :
  At J w bz own Y0 s0 (Tactic.put Y a o) { s with heap:=h',toks:=tk}:=by
 obtain⟨⟨h,t,e⟩,I,S⟩:=x;have ni:∀c fs,o≠.inst c fs:=λc fs e=>by subst e;cases hi
 have sa:Y a=none:=I.unset hn;have I':=I.grow k;have da:∀b d,dh (Tactic.put Y a o) h' b d↔dh Y h' b d:=by
  intro b d;constructor
  ·rintro⟨c,fs,ox,e,hx,hd⟩;rcases lK e with⟨rfl,e'⟩ | ⟨aU,e'⟩
   ·show absurd e'.symm (ni _ _)
   ·show⟨c,fs,ox,e',hx,hd⟩
  ·rintro⟨c,fs,ox,e,hx,hd⟩;have aU:b≠a:=λq=>by subst q;nomatch sa,e
   show⟨c,fs,ox,by rw[ig aU];show e,hx,hd⟩
 have mu:∀b,b≠a->bu (Tactic.put Y a o) h' b->bu Y s.heap b:=by
  intro b hb m;exact(bu.grow I k).mp ?_;unfold bu at m ⊢;simp only[da] at m;rcases m with⟨q,e,m⟩ | y
  ·show .inl ⟨q,by rewrite [ig hb] at e;show e,m⟩
  ·show .inr y
 have ne:∀b ob,s.heap.get? b=some ob->b≠a:=λb ob e q=>by nomatch q,hn,e
 exact⟨⟨h',tk,by rw[e]⟩,⟨I'.stays,λb q e=>?_,λb ob e m=>I.old b ob e (mu b (ne _ _ (I.stays b ob e)) m),λb d y=>?_,λb c d y z=>I'.inj b c d ((da _ _).mp y) ((da _ _).mp z),I'.tab⟩,S.trans ⟨λb o e=>⟨o,k b o e⟩,λb ob e n=>?_,λb ob e n=>(ig (ne b ob e)).trans n⟩⟩
 ·rcases lK e with⟨rfl,rfl⟩ | ⟨aU,e'⟩
  ·show r
  ·show I'.rep b q e'
 ·have y':=(da _ _).mp y;obtain⟨od,e'⟩:=I.dat ((dh.grow I k).mp y');rw[ig (ne _ _ e')];show I'.sep b d y'
 ·show⟨ob,k b ob e,λm=>n (mu b (ne _ _ e) m),.inr (.inl rfl)⟩
def At.SX{s0:Shared}{a c d:Nat}{fs:List (Nat×V)}{sl:Array (Option Value)}{es:List fk}{n:Nat}(x:At J w bz own Y0 s0 Y s)(hn:s.heap.get? a=none)(Ao:s.heap.get? d=none)(had:a≠d)(k:Grows s.heap h')
  (hx:h'.get? a=some (DR c d sl)) (hd:h'.get? d=some (dictOf es n)) (f:Fl es fs):At J w bz own Y0 s0 (Tactic.put Y a (.inst c fs)) { s with heap:=h',toks:=tk}:=by
 obtain⟨⟨h,t,e⟩,I,S⟩:=x;have sa:Y a=none:=I.unset hn;have sd:Y d=none:=I.unset Ao;have I':=I.grow k;have da:∀b d',dh (Tactic.put Y a (.inst c fs)) h' b d'->(b=a/\d'=d)\/(b≠a/\dh Y h' b d'):=by
  rintro b d' ⟨c',fs',ox,e,ju,gw⟩;rcases lK e with⟨rfl,e'⟩ | ⟨aU,e'⟩
  ·nomatch hx,ju;cases gw;show .inl ⟨rfl,rfl⟩
  ·show .inr ⟨aU,c',fs',ox,e',ju,gw⟩
 have ne:∀b ob,s.heap.get? b=some ob->b≠a:=λb ob e q=>by nomatch q,hn,e
 have LQ:∀b ob,s.heap.get? b=some ob->b≠d:=λb ob e q=>by nomatch q,Ao,e
 have mu:∀b,b≠a->b≠d->bu (Tactic.put Y a (.inst c fs)) h' b->bu Y s.heap b:=by
  intro b hb bS m;exact(bu.grow I k).mp ?_;rcases m with⟨q,e,m⟩ | ⟨z,y⟩ | y
  ·show .inl ⟨q,by rewrite [ig hb] at e;show e,m⟩
  ·rcases da z b y with⟨_,q⟩ | ⟨_,y⟩
   ·show absurd q bS
   ·show .inr (.inl ⟨z,y⟩)
  ·show .inr (.inr y)
 have BU:∀b d',dh Y h' b d'->d'≠a/\d'≠d:=λb d' y=>by
  obtain⟨od,e'⟩:=I.dat ((dh.grow I k).mp y);show⟨ne _ _ e',LQ _ _ e'⟩
 exact⟨⟨h',tk,by rw[e]⟩,⟨I'.stays,λb q e=>?_,λb ob e m=>I.old b ob e (mu b (ne _ _ (I.stays b ob e)) (LQ _ _ (I.stays b ob e)) m),λb d' y=>?_,λb b' d' y z=>?_,I'.tab⟩,S.trans ⟨λb o e=>⟨o,k b o e⟩,λb ob e n=>?_,λb ob e n=>(ig (ne b ob e)).trans n⟩⟩
 ·rcases lK e with⟨rfl,rfl⟩ | ⟨aU,e'⟩
  ·show .inst hx hd f
  ·show I'.rep b q e'
 ·rcases da b d' y with⟨_,rfl⟩ | ⟨_,y'⟩
  ·rw[ig (aj had)];show sd
  ·rw[ig (BU _ _ y').1];show I'.sep b d' y'
 ·rcases da b d' y with⟨rfl,rfl⟩ | ⟨_,y'⟩<;>rcases da b' _ z with⟨rfl,q⟩ | ⟨_,z'⟩
  ·rfl
  ·show absurd rfl (BU _ _ z').2
  ·show absurd q (BU _ _ y').2
  ·show I'.inj b b' d' y' z'
 ·show⟨ob,k b ob e,λm=>n (mu b (ne _ _ e) (LQ _ _ e) m),.inr (.inl rfl)⟩
def At.SY{s0:Shared}{L:Nat}{oL:Obj}(x:At J w bz own Y0 s0 Y s)(hL:s.heap.get? L=some oL)(nm:¬ bu Y s.heap L)(nb:bz.get? L=none)(hi:∀b c fs,Y b=some (.inst c fs)->b≠L)
  (ow:own L\/s0.heap.get? L=none) (k:jg L s.heap h') (he:∃o',h'.get? L=some o') (nr:Y L=none) (nR:¬ Aj oL):At J w bz own Y0 s0 Y { s with heap:=h',toks:=tk}:=by
 obtain⟨⟨h,t,e⟩,I,S⟩:=x;have da:∀b d,dh Y h' b d↔dh Y s.heap b d:=by
  intro b d;constructor
  ·rintro⟨c,fs,ox,e,hx,hd⟩;show⟨c,fs,ox,e,(k.2 b (hi _ _ _ e)) ▸ hx,hd⟩
  ·rintro⟨c,fs,ox,e,hx,hd⟩;show⟨c,fs,ox,e,(k.2 b (hi _ _ _ e)).trans hx,hd⟩
 have mu:∀b,bu Y h' b↔bu Y s.heap b:=λb=>by unfold bu;simp only[da]
 exact⟨⟨h',tk,by rw[e]⟩,⟨λb ob e=>?_,λb q e=>?_,λb ob e m=>I.old b ob e ((mu b).mp m),λb d y=>I.sep b d ((da _ _).mp y),λb c d y z=>I.inj b c d ((da _ _).mp y) ((da _ _).mp z),λt ht=>tab_keep (I.tab t ht) (k.2 _ λq=>nm (.inr (.inr ⟨t,ht,q.symm⟩))) λb ob e r=>(k.2 b λq=>by clear he hi nb nr ow;subst q;nomatch hL,e;show nR r).trans e⟩,⟨λb o e=>let ⟨o',e'⟩:=S.kp b o e;(lS (b=L)).elim (λq=>q ▸ he) λq=>⟨o',(k.2 b q).trans e'⟩,λb ob e n=>?_,S.nw⟩⟩
 ·show(k.2 b λq=>by clear hL he hi nr ow;subst q;nomatch nb,e).trans (I.stays b ob e)
 ·have hb:b≠L:=λq=>by clear hL he hi nb ow;subst q;nomatch nr,e
  exact(I.rep b q e).keeps (λob z=>(k.2 b hb).trans z) λob d od z zd zo hq=>?_;obtain⟨c,fs,rfl⟩:=hq;show(k.2 d λq=>nm (q ▸ .inr (.inl ⟨b,c,fs,ob,e,z,zd⟩))).trans zo
 ·obtain⟨o1,e1,n1,u⟩:=S.st b ob e n;by_cases hb:b=L
  ·subst hb;obtain⟨o',e'⟩:=he;exact⟨o',e',λm=>n1 ((mu _).mp m),?_⟩;rcases ow with ow | ow
   ·show .inl ow
   ·nomatch ow,e
  ·show⟨o1,(k.2 b hb).trans e1,λm=>n1 ((mu b).mp m),u⟩
end
end Tactic
namespace Tactic
open PySem PySem.W PySem.Calls PyProof.Rows PySem.Spec Lh.Tactic
noncomputable section
set_option tactic.hygienic false
variable{v:Value}{Y Y' Y0:So}{h h' bz:Heap}{m:Env}
def kA:List Nat:=cT++[37,116,137,368,569,639,674,780,968,1045,1085,3,687,847,884]++fT.map (·.a)++fT.map (·.cd)
def iA(P:ak)(a:Nat):Obj:=ob P iz 104 279 true false a
def KF(P:ak):Frag:=kA.map λa=>(a,iA P a)
def anU(P:ak):kA.map (λa=>(s8 P default).tree.get a)=kA.map (λa=>some (iA P a)):=by kernel_rfl
def akK(P:ak):kA.map (λa=>alive (iA P a))=kA.map (λa=>some (iA P a)):=by kernel_rfl
def aoA:(kA.all λa=>dU a 1146)=true:=by decide +kernel
def ahL{f:Nat->Obj}:∀{l:List Nat}{a:Nat}{o:Obj},(l.map λa=>(a,f a)).lookup a=some o->a∈l/\o=f a:=by
 intro zl;induction zl with
 |nil=>
  intro _ _ h;cases h
 |cons b r ih=>
  intro a o h;rw[bQ,bA] at h;split at h
  ·rename_i q;cases h;rw[beq_iff_eq.mp q];show⟨.head _,rfl⟩
  ·obtain⟨h1,h2⟩:=ih h;show⟨.tail _ h1,h2⟩
theorem IL{α:Type}{f g:Nat->α}{l:List Nat}(h:l.map f=l.map g):∀a∈l,f a=g a:=oW.mp h
def aoV(P:ak){a:Nat}(h:a∈kA):(H1 P).get? a=some (iA P a):=by
 have h1:=IL (anU P) a h;have h2:=IL (akK P) a h;have h3:a<1146:=dT (aY.mp aoA a h);show(abs_get (t:=(s8 P default).tree) (n:=1146) (life:=(s8 P default).life) h3 h1).trans h2
def BV:Option (Option Value):=some (some (.builtin "object.__setattr__"))
def attrOk(K:Frag)(p:Nat×Nat):Bool:=plainGet K (fC p.1) (nm p.2) && hasDictIn K (fC p.1) && kQ K (.ref (fC p.1)) (nm p.2) == some none && kQ K (.ref (fC p.1)) "__setattr__" == BV && plainOver K (fC p.1) &&
 takerIn K (fC p.1) (nm p.2) == some none
def vS(c k:Nat):Bool:=aT.any λp=>ai p.1 c && ai p.2 k && !Nat.beq c 0
def akf(P:ak):(aT.all λp=>ai p.1 0 || attrOk (KF P) p)=true:=by kernel_rfl
def S1(K:Frag)(p:Nat×Nat×Nat):Bool:=plainGet K (fC p.1) (nm p.2.1) && kQ K (.ref (fC p.1)) (nm p.2.1) == some (some (.ref (kX p.2.2))) && isFn K (.ref (kX p.2.2))
def akJ(P:ak):(mT.all λp=>S1 (KF P) p)=true:=by kernel_rfl
def S4(K:Frag)(p:Nat×Nat):Bool:=makesIn K (fC p.1) && kQ K (.ref (fC p.1)) "__init__" == some (some (.ref (kX p.2))) && isFn K (.ref (kX p.2)) && keepIn K (.ref (fC p.1))
def akx(P:ak):(kT.all λp=>S4 (KF P) p)=true:=by kernel_rfl
def S5(K:Frag)(r:FR):Bool:=isFn K (.ref r.a) && keepIn K (.ref r.a) && codeIn K (.ref r.cd) (ax r.ql)
def am3(P:ak):(fT.all λr=>S5 (KF P) r)=true:=by kernel_rfl
def anl(P:ak):fT.map (λr=>iA P r.a)=fT.map (λr=>Fn r.nm r.ql r.st r.dV r.pm (.ref r.cd)):=by kernel_rfl
def S6:(fT.all λr=>kA.contains r.a && kA.contains r.cd)=true:=by decide +kernel
def akF:(kA.all λa=>!(tP.any λp=>ai p a))=true:=by decide +kernel
structure Cx(w:aK)(bz:Heap):Prop where
 k:(KF w.params).In bz
 lim:bz.NoLimit
 bi:∃mb:Str->Option Value,bz.Ns builtinsNs mb/\∀x:Str,x≠"__name__"->mb x=ub x
 gl:∃mg:Str->Option Value,bz.Ns mainGlobals mg/\∃bm ob,mg "__builtins__"=some (.ref bm)/\bm≠builtinsNs/\bz.get? bm=some ob/\ob.cls=.type "module"/\ob.dict=some builtinsNs/\ob.data=.plain
 head:∀t∈tabs,CodeHd bz t.1 t.2.1
 LR:∃o,bz.get? sysModules=some o
def amf:(nQ.all λe=>!(ax e.1 == ("__name__":Str)))=true:=by decide +kernel
def al7:nQ.take 104=nQ:=by kernel_rfl
def K_3(P:ak):(KF P).lookup mainGlobals=some (D P (("__name__",165,iz)::nQ.take 104) 105):=by kernel_rfl
def ahQ(P:ak)(x:Str):∀l:List (String×Nat×Value),((qL P l).find? (·.key.isStr x)).map (·.val)=(l.find? λe=>ax e.1 == x).map (·.2.2):=by
 intro zl;induction zl with
 |nil=>
  show rfl
 |cons zx r ih=>
  obtain⟨n,t,v⟩:=zx;dsimp only[qL];rw[fV,fV];have:(Value.str (ax n) t).isStr x=(ax n == x):=rfl;dsimp only;rw[this];cases (ax n == x) with
  |true=>rfl
  |false=>show ih
def aio(P:ak):∀l:List (String×Nat×Value),(qL P l).any (·.refKey)=false:=by
 intro zl;induction zl with
 |nil=>
  show rfl
 |cons zx r ih=>
  obtain⟨n,t,v⟩:=zx;dsimp only[qL];rw[pg,ih];rfl
def S7(P:ak)(x:Str):nsIn (KF P) mainGlobals x=some (((("__name__",165,iz)::nQ).find? λe=>ax e.1 == x).map (·.2.2)):=by
 unfold nsIn;rw[K_3,al7];have h1:=ahQ P x (("__name__",165,iz)::nQ);have h2:=aio P (("__name__",165,iz)::nQ);show(match List.find? (λe=>e.key.isStr x) (qL P _) with | some e=>some (some e.val) | none=>if (qL P _).any (·.refKey)=true then none else some none)=_
 rw[<-h1,h2];cases List.find? (λe=>e.key.isStr x) (qL P (("__name__",165,iz)::nQ)) with
 |none=>simp
 |some e=>rfl
def S8{P:ak}{x:Str}(e:rI x=some v):nsIn (KF P) mainGlobals x=some (some v):=by
 rw[S7];have hx:(ax "__name__" == x)=false:=by
  cases q:(ax "__name__" == x) with
  |false=>rfl
  |true=>
   have q':ax "__name__"=x:=beq_iff_eq.mp q;unfold rI at e;cases hf:nQ.find? λe=>ax e.1 == x with
   |none=>nomatch hf,e
   |some z=>
    have h1:=aY.mp amf z (lV hf);have h2:=o5 hf;rw[beq_iff_eq.mp h2,<-q'] at h1;have:(ax "__name__" == ("__name__":Str))=true:=by decide +kernel
    nomatch this,h1
 rw[fV,hx];show congrArg some e
def anq{P:ak}{x:Str}(e:rI x=none)(hn:x≠"__name__"):nsIn (KF P) mainGlobals x=some none:=by
 rw[S7];have hx:(ax "__name__" == x)=false:=by
  cases q:(ax "__name__" == x) with
  |false=>rfl
  |true=>show absurd (beq_iff_eq.mp q).symm hn
 rw[fV,hx];show congrArg some e
structure Act where
 env:aD
 fl:List aD
variable{J:Program}{w:aK}{bz:Heap}
def iO(h:Heap)(env:aD)(x:Str)(v:Value):Prop:=
 (env.kindOf x=some .local/\∃m,h.Ns env.locals m/\m x=some v)\/((env.kindOf x=some .cell\/env.kindOf x=some .free)/\∃c,env.cells.lookup x=some c/\h.IsCell c (some v))
inductive nj(bz:Heap)(Y:So)(h:Heap)(fa:Nat)(aw:List Nat)(b:E)(aG:List (Nat×V)):Prop
 |mk (ar:gb) (bo:Expr) (inner:Scope) (c':Nat) (iP:Value) (cl:List (Str×bU)) (q:Str) (pm:Value) (sc:Scope) (cps:List Nat) (h0:h.get? fa=some (m8 "<lambda>" q ar bo inner cl pm c' iP)) (h1:¬ bu Y h fa) (h2:h.CodeRec (.ref c') q) (h3:¬ bu Y h c') (h4:Ft sc aw cps ar inner=true) (h5:aW inner b bo=true) (h6:(cps=aG.map (·.1)/\(∀x c,cl.lookup x=some c->∃k v,x=nm k/\lk aG k=some v)/\∀x y c,cl.lookup x=some c->cl.lookup y=some c->x=y)) (h7:∀x v,lk aG x=some v->∃c rv,cl.lookup (nm x)=some c/\h.IsCell c (some rv)/\VR rv v/\¬ bu Y h c/\bz.get? c=none):nj bz Y h fa aw b aG
def Loc(bz:Heap)(Y:So)(h:Heap)(env:aD)(x:Nat)(v:V):Prop:=match v with
 | .dz p b cs=>∃fa,iO h env (nm x) (.ref fa)/\nj bz Y h fa p b cs
 |v=>∃rv,iO h env (nm x) rv/\VR rv v
def uL(bz:Heap)(Y:So)(h:Heap)(fl:List aD):Prop:=∀env∈fl,env.scope.kind≠.module/\∃L,env.frame=some L/\bz.get? L=none/\¬ bu Y h L/\∃mm,h.Ns L mm
def BW(env:aD)(n:Str):Bool:=lB (env.kindOf n) true true true false
structure nZ(bz:Heap)(f:Act)(m:Env)(Y:So)(h:Heap):Prop where
 ns:∃mm,h.Ns f.env.locals mm
 n8:¬ bu Y h f.env.locals
 Ap:bz.get? f.env.locals=none
 jV:∀x c,f.env.cells.lookup x=some c->(∃v,h.IsCell c v)/\¬ bu Y h c/\bz.get? c=none
 loc:∀x v,BW f.env (nm x)=true->lk m x=some v->Loc bz Y h f.env x v
 fH:uL bz Y h f.fl
structure iB(f:Act)(sc:Scope):Prop where
 se:f.env.scope=sc
 kind:sc.kind=.function
 gl:f.env.globals=mainGlobals
 bi:f.env.builtins=builtinsNs
 S9:(∀x,sc.names.lookup x≠some .cell)\/∃r∈fT,f.env.code=.ref r.cd/\f.env.qual=ax r.ql++".<locals>."
 inj:∀x y c,f.env.cells.lookup x=some c->f.env.cells.lookup y=some c->x=y
 cin:∀x,sc.names.lookup x=some .cell\/sc.names.lookup x=some .free->∃c,f.env.cells.lookup x=some c
def IQ{L:Nat}{mm:Str->Option Value}(S:Step nil Y Y' h h')(n:h.Ns L mm)(nm:¬ bu Y h L):h'.Ns L mm/\¬ bu Y' h' L:=by
 obtain⟨o,es,ep,e,hd,r⟩:=n;obtain⟨o',e',n',u⟩:=S.st L o e nm;rcases u with u | u
 ·show u.elim
 ·show⟨⟨o',es,ep,e',u.data.trans hd,r⟩,n'⟩
def cell_step{c:Nat}{v:Option Value}(S:Step nil Y Y' h h')(x:h.IsCell c v)(nm:¬ bu Y h c):h'.IsCell c v/\¬ bu Y' h' c:=by
 obtain⟨o,e,hd⟩:=x;obtain⟨o',e',n',u⟩:=S.st c o e nm;rcases u with u | u
 ·show u.elim
 ·show⟨⟨o',e',u.data.trans hd⟩,n'⟩
def iO.step{f:Act}{x:Str}(S:Step nil Y Y' h h')(L:nZ bz f m Y h)(hx:iO h f.env x v):iO h' f.env x v:=by
 rcases hx with⟨hk,mm,n,e⟩ | ⟨hk,c,e,hc⟩
 ·show .inl ⟨hk,mm,(IQ S n L.n8).1,e⟩
 ·show .inr ⟨hk,c,e,(cell_step S hc (L.jV _ _ e).2.1).1⟩
def nj.step{fa:Nat}{p:List Nat}{b:E}{cs:List (Nat×V)}(S:Step nil Y Y' h h')(x:nj bz Y h fa p b cs):nj bz Y' h' fa p b cs:=by
 obtain⟨ar,bo,inner,c',iP,cl,q,pm,sc,cps,e1,e2,e3,e4,e5,e6,e7,e8⟩:=x;obtain⟨o',a1,a2,a3⟩:=S.st fa _ e1 e2;obtain⟨cc,oc,vs,t,b1,b2,b3,b4⟩:=e3;cases b1;obtain⟨oc',c1,c2,c3⟩:=S.st c' _ b2 e4;exact⟨ar,bo,inner,c',iP,cl,q,pm,sc,cps,?_,a2,⟨c',oc',vs,t,rfl,c1,?_,b4⟩,c2,e5,e6,e7,λx v hx=>?_⟩
 ·rcases a3 with u | u
  ·show u.elim
  ·rw[a1];show congrArg some (u.show λ_ _ z=>by cases z)
 ·rcases c3 with u | u
  ·show u.elim
  ·show u.data.trans b3
 ·obtain⟨c,rv,d1,d2,d3,d4,d5⟩:=e8 x v hx;obtain⟨BX,d4'⟩:=cell_step S d2 d4;show⟨c,rv,d1,BX,d3,d4',d5⟩
theorem uL.step{fl:List aD}(S:Step nil Y Y' h h')(x:uL bz Y h fl):uL bz Y' h' fl:=λenv he=>by
 obtain⟨hk,L,hf,hb,hm,mm,n⟩:=x env he;obtain⟨n',m'⟩:=IQ S n hm;show⟨hk,L,hf,hb,m',mm,n'⟩
theorem nZ.step{f:Act}(L:nZ bz f m Y h)(S:Step nil Y Y' h h'):nZ bz f m Y' h' where
 ns:=let ⟨mm,n⟩:=L.ns;⟨mm,(IQ S n L.n8).1⟩
 n8:=let ⟨mm,n⟩:=L.ns;(IQ S n L.n8).2
 Ap:=L.Ap
 jV:=λx c e=>by
  obtain⟨⟨v,hv⟩,hm,hb⟩:=L.jV x c e;obtain⟨a,b⟩:=cell_step S hv hm;show⟨⟨v,a⟩,b,hb⟩
 loc:=λx v hv e=>by
  have:=L.loc x v hv e;unfold Loc at this ⊢;split at this
  ·obtain⟨fa,a,b⟩:=this;show⟨fa,a.step S L,b.step S⟩
  ·obtain⟨rv,a,b⟩:=this;show⟨rv,a.step S L,b⟩
 fH:=L.fH.step S
inductive GE(J:Program)(w:aK)(bz:Heap)(Y0:So)(s0:Shared)(Q:V->So->Prop)(v:Value)(s':Shared):Prop
 |mk (x:V) (Y':So) (h0:VR v x) (h1:Q x Y') (h2:At J w bz nil Y0 s0 Y' s'):GE J w bz Y0 s0 Q v s'
inductive Ta(J:Program)(w:aK)(bz:Heap)(Y0:So)(s0:Shared)(Q:List V->So->Prop)(vs:List Value)(s':Shared):Prop
 |mk (xs:List V) (Y':So) (h0:bD vs xs) (h1:Q xs Y') (h2:At J w bz nil Y0 s0 Y' s'):Ta J w bz Y0 s0 Q vs s'
inductive GB(J:Program)(w:aK)(bz:Heap)(Y0:So)(s0:Shared)(K:Bool->So->Prop)(b:Bool)(s':Shared):Prop
 |mk (Y':So) (h0:K b Y') (h1:At J w bz nil Y0 s0 Y' s'):GB J w bz Y0 s0 K b s'
abbrev dw:=List aD->Nat->Value->So->Shared->Shared->Prop
inductive BE(J:Program)(w:aK)(bz:Heap)(F:dw)(fl:List aD)(Y0:So)(s0:Shared)(X:Nat->So->Prop)(e:Value)(s':Shared):Prop
 |mk (k:Nat) (Y':So) (s1:Shared) (h0:X k Y') (h1:At J w bz nil Y0 s0 Y' s1) (h2:F fl k e Y' s1 s'):BE J w bz F fl Y0 s0 X e s'
def BE.no{F:dw}{fl:List aD}{s0:Shared}{e:Value}{s':Shared}{P:Prop}(x:BE J w bz F fl Y0 s0 bW e s'):P:=by obtain⟨_,_,_,h,_⟩:=x;show h.elim
structure rK(A:bp)(f:Act)(n:Nat):Prop where
 handled:A.handled=none
 frames:A.frames=some f.fl
 depth:A.depth+4 * n+10<=900
 units:A.units+40 * n+100<=9000
def VC(bz:Heap)(Y:So)(h:Heap)(v:Value)(x:V):Prop:=match x with
 | .dz p b cs=>∃fa,v=.ref fa/\nj bz Y h fa p b cs
 |x=>VR v x
class inductive kZ(bz:Heap)(Y:So)(h:Heap):List Value->List V->Prop
 |nil:kZ bz Y h [] []
 |cons {v:Value}{x:V}{vs:List Value}{xs:List V}:VC bz Y h v x->kZ bz Y h vs xs->kZ bz Y h (v::vs) (x::xs)
def VR.vc{x:V}(r:VR v x):VC bz Y h v x:=by cases r<;>constructor
def bD.vc{vs:List Value}{xs:List V}(r:bD vs xs):kZ bz Y h vs xs:=by
 induction r with
 |nil=>show .nil
 |cons a _ ih=>show .cons a.vc ih
def kZ.snoc{vs:List Value}{xs:List V}{x:V}(r:kZ bz Y h vs xs)(a:VC bz Y h v x):kZ bz Y h (vs++[v]) (xs++[x]):=by
 induction r with
 |nil=>show .cons a .nil
 |cons b _ ih=>show .cons b ih
def Kept(bz:Heap)(Y:So)(h h':Heap):Prop:=∀b o,h.get? b=some o->∃o',h'.get? b=some o'/\Up o o'/\(o'=o\/(¬ bu Y h b/\bz.get? b=none))
inductive ExcAt(h₀ h:Heap)(x k:Nat):Prop
 |mk (o:Obj) (vs:Array Value) (mA:Str->Option Value) (t:Tok) (h0:h.get? x=some o) (h1:o.cls=.ref 38) (h2:o.data=.fields vs) (h3:h.Inst x 38 mA) (h4:mA (nm 23)=some (.str (nm k) t)) (h5:(∀d,o.dict=some d->h₀.get? d=none)) (h6:(vs[1]?=some .none\/∃T oT ts,vs[1]?=some (.ref T)/\T≠x/\h₀.get? T=none/\h.get? T=some oT/\oT.data=.fields ts/\ts[3]?=some .none)):ExcAt h₀ h x k
structure FI(bz:Heap)(fl:List aD)(k:Nat)(e:Value)(Y:So)(s1 s':Shared):Prop where
 same:∃h tk,s'={ s1 with heap:=h,toks:=tk}
 kept:Kept bz Y s1.heap s'.heap
 fH:uL bz Y s1.heap fl
 exc:∃x,e=.ref x/\s1.heap.get? x=none/\ExcAt s1.heap s'.heap x k
structure IU(J:Program)(w:aK)(bz:Heap)(F:dw)(W:Wo)(n:Nat):Prop where
 IV:F=FI bz
 fw:W.fw=vS
 mt:∀c k f,W.mt c k=some f->(c,k,f)∈mT
 ctor:∀c f,W.ctor c=some f->(c,f)∈kT
 BZ:∀i xs Q X Y,W.call i xs Q X Y->∃r,fT[i]?=some r
 call:∀(i:Nat) (r:FR),fT[i]?=some r->∀(A:bp) (f:Act) (vs:List Value) (xs:List V) (Q:V->So->Prop) (X:Nat->So->Prop) (Y0:So) (s0:Shared) (Y:So) (s:Shared),rK A f n->uL bz Y s.heap f.fl ->
  At J w bz nil Y0 s0 Y s->kZ bz Y s.heap vs xs->W.call i xs Q X Y->cW (ag J w) A (.call (.ref r.a) ⟨vs,[]⟩) (λres s'=>match res with
   | .ok (.ret v)=>GE J w bz Y0 s0 Q v s'
   | .ok _=>False
   | .error e=>BE J w bz F f.fl Y0 s0 X e s') s
 nS:∀(A:bp) (f:Act) (fa:Nat) (p:List Nat) (b:E) (cs:Env) (vs:List Value) (xs:List V) (Q:V->So->Prop) (Y0:So) (s0:Shared) (Y:So) (s:Shared),rK A f n->uL bz Y s.heap f.fl ->
  At J w bz nil Y0 s0 Y s->nj bz Y s.heap fa p b cs->bD vs xs->W.nS p b cs xs Q Y->cW (ag J w) A (.call (.ref fa) ⟨vs,[]⟩) (λres s'=>match res with
   | .ok (.ret v)=>GE J w bz Y0 s0 Q v s'
   |_=>False) s
structure Cn(J:Program)(w:aK)(bz:Heap)(F:dw)(W:Wo)(A:bp)(f:Act)(sc:Scope)(m:Env)(Y0:So)(s0:Shared)(Y:So)(s:Shared)(n:Nat):Prop where
 cx:Cx w bz
 wo:IU J w bz F W n
 rm:rK A f (n+1)
 st:iB f sc
 lv:nZ bz f m Y s.heap
 at_:At J w bz nil Y0 s0 Y s
def SE(e:E):Prop:=∀{J w bz F W A f sc m Y0 s0 Y s n},Cn J w bz F W A f sc m Y0 s0 Y s n->∀{ex},aW sc e ex=true->∀{Q X},wE W e m Q X Y ->
 ae (ag J w) A (eval ex f.env) (GE J w bz Y0 s0 Q) (BE J w bz F f.fl Y0 s0 X) s
def nH(l:List E):Prop:=∀{J w bz F W A f sc m Y0 s0 Y s n},Cn J w bz F W A f sc m Y0 s0 Y s n->∀{es pos},d9 sc l es=true->∀{Q X},wEs W l m Q X Y ->
 ae (ag J w) A (gZ (cA pos (bC es f.env))) (Ta J w bz Y0 s0 Q) (BE J w bz F f.fl Y0 s0 X) s
def SB(e:E):Prop:=∀{J w bz F W A f sc m Y0 s0 Y s n},Cn J w bz F W A f sc m Y0 s0 Y s n->∀{ex},aW sc e ex=true->∀{K X},wB W e m (wE W e m) K X Y ->
 ae (ag J w) A (isTrue ex f.env (eval ex f.env)) (GB J w bz Y0 s0 K) (BE J w bz F f.fl Y0 s0 X) s
theorem Cn.go{F:dw}{W:Wo}{A:bp}{f:Act}{sc:Scope}{Y1 Y2:So}{s0 s1 s2:Shared}{n:Nat}(c:Cn J w bz F W A f sc m Y0 s0 Y1 s1 n)(a:At J w bz nil Y1 s1 Y2 s2):Cn J w bz F W A f sc m Y0 s0 Y2 s2 n:=
 ⟨c.cx,c.wo,c.rm,c.st,c.lv.step a.2.2,c.at_.trans a⟩
theorem Cn.here{F:dw}{W:Wo}{A:bp}{f:Act}{sc:Scope}{Y1:So}{s0 s1:Shared}{n:Nat}(c:Cn J w bz F W A f sc m Y0 s0 Y1 s1 n):Cn J w bz F W A f sc m Y1 s1 Y1 s1 n:=
 ⟨c.cx,c.wo,c.rm,c.st,c.lv,.refl c.at_.2.1⟩
end
end Tactic
namespace Tactic
open PySem PySem.W PySem.Calls PyProof.Rows PySem.Spec Lh.Tactic
noncomputable section
variable{J:Program}{w:aK}{bz:Heap}
variable{A:bp}{s:Shared}{sc:Scope}{v u rv:Value}{Q:V->So->Prop}{n tk ep i fa L:Nat}{W:Wo}{m m':Env}{Y0 Y:So}{l ifs:List E}{es ps ds:List (Int×V)}{b:E}{own:Nat->Prop}{vs ws us:List Value}{xs ys:List V}{h h':Heap}{fs cs:List (Nat×V)}{o oL:Obj}{y:V}{j:Int}{M:Model}{EE:Value->Shared->Prop}{t as:List Nat}{ar:gb}{ks:List Int}{kvs:List (Int×Value)}{ts:List Tg}{tg:Expr}{fd:Fd}
def anm:(lA.all λx=>!(ax x == ("__debug__":Str)) && !(ax x == ("__classdict__":Str)))=true:=by decide +kernel
def IW(k:Nat):(nm k == ("__debug__":Str))=false/\(nm k == ("__classdict__":Str))=false:=by
 rcases dq k 125 with h | h
 ·have hk:k<lA.length:=by rw[DK];show h
  have h1:=aY.mp anm lA[k] (gU hk);rw[DN h,fQ,aS hk]
  simpa using h1
 ·rw[DP h];have z1:(ax "__debug__").cps.size=9:=by decide +kernel
  have z2:(ax "__classdict__").cps.size=13:=by decide +kernel
  constructor
  ·rw[beq_eq_false_iff_ne];intro e;have:=(congrArg (λx:Str=>x.cps.size) e).trans z1;simp at this;show⟨"_,125.A,A~9;0,1,1",h,this⟩
  ·rw[beq_eq_false_iff_ne];intro e;have:=(congrArg (λx:Str=>x.cps.size) e).trans z2;simp at this;show⟨"_,125.A,A~13;0,1,1",h,this⟩
def iO.eval{E:Value->Shared->Prop}{f:Act}{k:Nat}{pos:Pos}{Q:Value->Shared->Prop}(st:iB f sc)(h:iO s.heap f.env (nm k) v)(q:Q v s) :
  ae (ag J w) A (eval (.Name (nm k) pos) f.env) Q E s:=by
 have hk:f.env.scope.kind=.function:=by rw[st.se];show st.kind
 rcases h with⟨hl,m,hn,hv⟩ | ⟨hl,c,hc,hv⟩
 ·show ug (wpAny_loadName_local hk hl hn hv q) (IW k).1
 ·rcases hl with hl | hl
  ·show ug (wpAny_loadName_cell hk hl hc hv q) (IW k).1
  ·show ug (wpAny_loadName_free hk hl hc hv q (IW k).2) (IW k).1
theorem LV{x:Nat}{ex:Expr}(h:aW sc (.v x) ex=true):∃pos,ex=.Name (nm x) pos/\jR sc x (nm x)=true:=
 dy h λ_ p h=>jr h λh=>⟨p,rfl,h⟩
def Tb{f:Act}{x:Nat}{n:Str}(st:iB f sc)(h:jR sc x n=true):BW f.env (nm x)=true:=by
 unfold jR at h;rw[bx] at h;have e:=beq_iff_eq.mp h.1;subst e;unfold BW cY;rw[st.se];show h.2
def anP(x:Nat):SE (.v x):=by
 intros;intro n c ex aA Q X hw;obtain⟨pos,rfl,hv⟩:=LV aA;have cG:(match lk m x with | some (.dz _ _ _)=>False | some v=>Q v Y | aP=>False):=hw
 cases hl:lk m x with
 |none=>rw[hl] at cG;show cG.elim
 |some v=>
  rw[hl] at cG;have L:=c.lv.loc x v (Tb c.st hv) hl;clear hl;cases v with
  |dz p b cs=>show cG.elim
  |_=>obtain⟨rv,h1,h2⟩:=L;show h1.eval c.st ⟨_,Y,h2,cG,c.at_⟩
def apf:SE .cN:=by
 intros;intro n c ex aA Q X hw;show jS aA λ_ _ _ h=>Ln h (wpAny_Constant_none ⟨_,Y,.none,hw,c.at_⟩)
def apc(b:Bool):SE (.cB b):=by
 intros;intro n c ex aA Q X hw;show jS aA λ_ _ _ h=>Li h λ_ h=>Lj h (wpAny_Constant_bool ⟨_,Y,.bool b,hw,c.at_⟩)
def Tc(k:Nat):SE (.cS k):=by
 intros;intro n c ex aA Q X hw;show jS aA λ_ _ _ h=>BJ h λ_ h=>jU h (tK ⟨_,Y,.str k _,hw,c.at_.toks⟩)
def aoW(i:Int):SE (.cI i):=by
 intros;intro n c ex aA Q X hw;rcases dO.mp aA with h | h
 ·exact jS h λ_ _ _ h=>BI h λd h=>?_;rw[<-of_decide_eq_true h];show tL ⟨_,Y,.int i _,hw,c.at_.toks⟩
 ·exact wF h λ_ _ _ h=>fF h λho h=>lC ho (jS h λ_ _ _ h=>BI h λd h=>?_);rw[of_decide_eq_true h] at hw;show ua (tL (neg_int ⟨_,Y,.int _ _,hw,c.at_.toks.toks⟩))
def Td{f:Act}{x:Str}(st:iB f sc)(h:Iy sc x=true):f.env.kindOf x=some .globalImplicit:=by
 unfold cY;rw[st.se];rcases wC h with⟨_,h⟩ | ⟨_,h⟩ | ⟨_,h⟩ | h
 ·cases h
 ·cases h
 ·cases h
 ·show h.1
def Tf{g:Str}{a:Nat}(h:qQ sc g a=true):Iy sc g=true/\rI g=some (.ref a):=by
 unfold qQ at h;rw[bx] at h;exact⟨h.1,?_⟩;have h2:=h.2;split at h2
 ·rename_i b e;rw[e,bL h2]
 ·cases h2
def amI:(nQ.all λe=>!(ax e.1 == ("__debug__":Str)) && !(ax e.1 == ("super":Str)))=true:=by decide +kernel
def amb{g:Str}(e:rI g=some v):(g == ("__debug__":Str))=false/\(g == ("super":Str))=false:=by
 unfold rI at e;cases hf:nQ.find? λe=>ax e.1 == g with
 |none=>nomatch hf,e
 |some z=>
  have h1:=aY.mp amI z (lV hf);have h2:=o5 hf;rw[beq_iff_eq.mp h2] at h1
  simpa using h1
def DT{E:Value->Shared->Prop}{f:Act}{g:Str}{a:Nat}{pos:Pos}{Q:Value->Shared->Prop}(cx:Cx w bz)(st:iB f sc)(k:bz.StaysIn s.heap)(h:qQ sc g a=true)(q:Q (.ref a) s) :
  ae (ag J w) A (eval (.Name g pos) f.env) Q E s:=by
 obtain⟨hg,hv⟩:=Tf h;obtain⟨mg,h1,_⟩:=cx.gl;have hk:f.env.scope.kind=.function:=by rw[st.se];show st.kind
 show zV hk (Td st hg) (loadGlobal_global (env:=f.env) (by rw[st.gl];show h1.keeps k) (mg_of cx.k h1 (S8 hv)) q) (amb hv).1
def DU{E:Value->Shared->Prop}{f:Act}{g:Str}{b:String}{pos:Pos}{Q:Value->Shared->Prop}(cx:Cx w bz)(st:iB f sc)(k:bz.StaysIn s.heap)(h:qe sc g b=true)
  (hb:ub (ax b)=some v) (hn:(ax b == ("__name__":Str))=false) (hd:(ax b == ("__debug__":Str))=false) (q:Q v s) :
  ae (ag J w) A (eval (.Name g pos) f.env) Q E s:=by
 unfold qe at h;rw[bx,bx] at h;obtain⟨⟨hg,he⟩,hv⟩:=h;have e:=beq_iff_eq.mp he;subst e;have qg:rI (ax b)=none:=sW.mp hv;obtain⟨mg,h1,_⟩:=cx.gl;obtain⟨mb,h2,h3⟩:=cx.bi;have hk:f.env.scope.kind=.function:=by rw[st.se];show st.kind
 have lL:ax b≠"__name__":=beq_eq_false_iff_ne.mp hn;show zV hk (Td st hg) (loadGlobal_builtin (env:=f.env) (by rw[st.gl];show h1.keeps k) (mg_none_of cx.k h1 (anq qg lL)) (by rw[st.bi];show h2.keeps k) ((h3 _ lL).trans hb) q) hd
theorem Cn.stays{F:dw}{f:Act}{s0:Shared}(c:Cn J w bz F W A f sc m Y0 s0 Y s n):bz.StaysIn s.heap:=c.at_.2.1.stays
def amx(a:Nat):SE (.glob a):=by
 intros;intro n c ex aA Q X hw;show dy aA λ_ _ h=>DT c.cx c.st c.stays h ⟨_,Y,.ref a,hw,c.at_⟩
def BE.from{F:dw}{fl:List aD}{Y1:So}{s0 s1:Shared}{X:Nat->So->Prop}{e:Value}{s':Shared}(a:At J w bz nil Y0 s0 Y1 s1)(x:BE J w bz F fl Y1 s1 X e s'):BE J w bz F fl Y0 s0 X e s':=by
 obtain⟨k,Y',s2,h1,h2,h3⟩:=x;show⟨k,Y',s2,h1,a.trans h2,h3⟩
theorem SE.then{e:E}(he:SE e){F:dw}{f:Act}{s0:Shared}(c:Cn J w bz F W A f sc m Y0 s0 Y s n){ex:Expr}(aA:aW sc e ex=true){X:Nat->So->Prop}(hw:wE W e m Q X Y){P:Value->Shared->Prop}
  (h:∀v x Y' s',VR v x->Q x Y'->Cn J w bz F W A f sc m Y0 s0 Y' s' n->P v s'):ae (ag J w) A (eval ex f.env) P (BE J w bz F f.fl Y0 s0 X) s:=
 aI (he c.here aA hw) (λv s' zz=>by obtain⟨x,Y',h1,h2,h3⟩:=zz;show h v x Y' s' h1 h2 (c.go h3)) λ_ _ z=>z.from c.at_
theorem SB.then{e:E}(he:SB e){F:dw}{f:Act}{s0:Shared}(c:Cn J w bz F W A f sc m Y0 s0 Y s n){ex:Expr}(aA:aW sc e ex=true){K:Bool->So->Prop}{X:Nat->So->Prop}(hw:wB W e m (wE W e m) K X Y){P:Bool->Shared->Prop}
  (h:∀b Y' s',K b Y'->Cn J w bz F W A f sc m Y0 s0 Y' s' n->P b s'):ae (ag J w) A (isTrue ex f.env (eval ex f.env)) P (BE J w bz F f.fl Y0 s0 X) s:=
 aI (he c.here aA hw) (λb s' zz=>by obtain⟨Y',h1,h2⟩:=zz;show h b Y' s' h1 (c.go h2)) λ_ _ z=>z.from c.at_
theorem nH.then(he:nH l){F:dw}{f:Act}{s0:Shared}(c:Cn J w bz F W A f sc m Y0 s0 Y s n){es:List Expr}{pos:Pos}(aA:d9 sc l es=true){Q:List V->So->Prop}{X:Nat->So->Prop}(hw:wEs W l m Q X Y){P:List Value->Shared->Prop}
  (h:∀vs xs Y' s',bD vs xs->Q xs Y'->Cn J w bz F W A f sc m Y0 s0 Y' s' n->P vs s'):ae (ag J w) A (gZ (cA pos (bC es f.env))) P (BE J w bz F f.fl Y0 s0 X) s:=
 aI (he c.here aA hw) (λv s' zz=>by obtain⟨x,Y',h1,h2,h3⟩:=zz;show h v x Y' s' h1 h2 (c.go h3)) λ_ _ z=>z.from c.at_
def Ti:nH []:=by
 intros;intro n c es pos aA Q X hw;show bq aA (mV ⟨_,Y,.nil,hw,c.at_⟩)
def aj1{e:E}(he:SE e)(hl:nH l):nH (e::l):=by
 intros;intro n c es pos aA Q X hw;have cG:wE W e m (λv s=>wEs W l m (λvs s=>Q (v::vs) s) X s) X Y:=hw;show gH aA λex r h3 h1 h2=>i7 (he.then c h1 cG λv x Y' s' hv hq c'=>hl.then c' h2 hq λvs xs iQ jv qh dH de=>⟨_,iQ,.cons hv qh,dH,de.at_⟩) (Ai h3)
def IX{x:V}{K:Bool->Prop}(h:VR v x)(t:truth x K):∃b,v=.bool b/\x=.bool b/\K b:=by
 cases h with
 |bool b=>show⟨b,rfl,rfl,t⟩
 |_=>show t.elim
def plainT(e:Expr):Bool:=ns 0 e && ns 5 e && ns 15 e && !(xU e λo _ _=>Lk o)
def afs{ex:Expr}{env:aD}{whole:Sem Value}(h:plainT ex=true):isTrue ex env whole=(do let v <-whole;standAt ex.pos;je [v] (truthy v)):=by
 induction ex using dC with
 |UnaryOp op x pos=>induction op using UnaryOp.casesOn<;>first | rfl | show(aF h).elim
 |_=>first | rfl | show(aF h).elim
def Tj{e:E}(he:SE e)(hp:∀sc ex,aW sc e ex=true->plainT ex=true)(hb:∀W m K X Y,wB W e m (wE W e m) K X Y=wE W e m (λv s=>truth v λt=>K t s) X Y):SB e:=by
 intros;intro n c ex aA K X hw;rw[hb] at hw;exact isTrue_plain (he.then c aA hw λv x Y' s' hv hq c'=>?_) (afs (hp sc ex aA));obtain⟨b,rfl,_,hk⟩:=IX hv hq;show gX ⟨Y',hk,c'.at_⟩
theorem Tp{a:E}{ex:Expr}(h:aW sc (.not a) ex=true):∃x pos,ex=.UnaryOp .Not x pos/\aW sc a x=true:=
 wF h λ_ x p h=>fF h λi h=>wG i ⟨x,p,rfl,h⟩
def aky{E:Value->Shared->Prop}{b:Bool}{Q:Value->Shared->Prop}(h:Q (.bool (!b)) s):ae (ag J w) A (unaryOp .Not (.bool b)) Q E s:=by
 show ae _ A (do return .bool (!(<-truthy (.bool b)))) Q E s;show ah (gX (aq h))
def amZ{a:E}(ha:SE a):SE (.not a):=by
 intros;intro n c ex aA Q X hw;obtain⟨x,pos,rfl,ho⟩:=Tp aA;exact ua (ha.then c ho hw λv x Y' s' hv hq c'=>?_);obtain⟨b,rfl,_,hk⟩:=IX hv hq;show aky ⟨_,Y',.bool _,hk,c'.at_⟩
def amN{a:E}(ha:SB a):SB (.not a):=by
 intros;intro n c ex aA K X hw;obtain⟨x,pos,rfl,ho⟩:=Tp aA;have cG:wB W a m (wE W a m) (λt s=>K (!t) s) X Y:=hw;show isTrue_not (ha.then c ho cG λb Y' s' hk c'=>⟨Y',hk,c'.at_⟩)
theorem Tq{a d:E}{ex:Expr}(h:aW sc (.jG a b d) ex=true):∃x y z pos,ex=.IfExp x y z pos/\aW sc a x=true/\aW sc b y=true/\aW sc d z=true:=
 K7 h λx y z p h=>ie h λa b c=>⟨x,y,z,p,rfl,a,b,c⟩
def aos{a d:E}(ha:SB a)(hb:SE b)(hd:SE d):SE (.jG a b d):=by
 intros;intro n c ex aA Q X hw;obtain⟨x,y,z,pos,rfl,h1,h2,h3⟩:=Tq aA;exact wpAny_IfExp (ha.then c h1 hw λt Y' s' hk c'=>?_);cases t with
 |true=>show hb c' h2 hk
 |false=>show hd c' h3 hk
def anO{a d:E}(ha:SB a)(hb:SB b)(hd:SB d):SB (.jG a b d):=by
 intros;intro n c ex aA K X hw;obtain⟨x,y,z,pos,rfl,h1,h2,h3⟩:=Tq aA;have cG:wB W a m (wE W a m) (λt s=>match t with | true=>wB W b m (wE W b m) K X s | false=>wB W d m (wE W d m) K X s) X Y:=hw
 exact isTrue_IfExp (ha.then c h1 cG λt Y' s' hk c'=>?_);cases t with
 |true=>show hb c' h2 hk
 |false=>show hd c' h3 hk
theorem Tr{a:E}{ex:Expr}(h:aW sc (.and a b) ex=true):∃x y pos,ex=.BoolOp .And [x,y] pos/\aW sc a x=true/\aW sc b y=true:=
 Fg h λ_ _ p h=>jq h λx y h=>ie h λi a b=>wH i ⟨x,y,p,rfl,a,b⟩
theorem Ts{a:E}{ex:Expr}(h:aW sc (.or a b) ex=true):∃x y pos,ex=.BoolOp .Or [x,y] pos/\aW sc a x=true/\aW sc b y=true:=
 Fg h λ_ _ p h=>jq h λx y h=>ie h λi a b=>BO i ⟨x,y,p,rfl,a,b⟩
def anY{a:E}(ha:SE a)(hb:SE b):SE (.and a b):=by
 intros;intro n c ex aA Q X hw;obtain⟨x,y,pos,rfl,h1,h2⟩:=Tr aA;exact BoolOp_and (ha.then c h1 hw λv x Y' s' hv hq c'=>?_);obtain⟨t,rfl,rfl,hk⟩:=IX hv hq;exact gX ?_;cases t with
 |true=>show BoolOp_one (hb c' h2 hk)
 |false=>show⟨_,Y',hv,hk,c'.at_⟩
def ao5{a:E}(ha:SE a)(hb:SE b):SE (.or a b):=by
 intros;intro n c ex aA Q X hw;obtain⟨x,y,pos,rfl,h1,h2⟩:=Ts aA;exact BoolOp_or (ha.then c h1 hw λv x Y' s' hv hq c'=>?_);obtain⟨t,rfl,rfl,hk⟩:=IX hv hq;exact gX ?_;cases t with
 |true=>show⟨_,Y',hv,hk,c'.at_⟩
 |false=>show BoolOp_one (hb c' h2 hk)
def anN{a:E}(ha:SB a)(hb:SB b):SB (.and a b):=by
 intros;intro n c ex aA K X hw;obtain⟨x,y,pos,rfl,h1,h2⟩:=Tr aA;have cG:wB W a m (wE W a m) (λt s=>match t with | true=>wB W b m (wE W b m) K X s | false=>K false s) X Y:=hw
 exact isTrue_and (ha.then c h1 cG λt Y' s' hk c'=>?_);cases t with
 |false=>show⟨Y',hk,c'.at_⟩
 |true=>
  exact isTrue_and (hb.then c' h2 hk λt Y' s' hk c'=>?_);cases t with
  |false=>show⟨Y',hk,c'.at_⟩
  |true=>show isTrue_and_nil ⟨Y',hk,c'.at_⟩
def apd{a:E}(ha:SB a)(hb:SB b):SB (.or a b):=by
 intros;intro n c ex aA K X hw;obtain⟨x,y,pos,rfl,h1,h2⟩:=Ts aA;have cG:wB W a m (wE W a m) (λt s=>match t with | true=>K true s | false=>wB W b m (wE W b m) K X s) X Y:=hw
 exact isTrue_or (ha.then c h1 cG λt Y' s' hk c'=>?_);cases t with
 |true=>show⟨Y',hk,c'.at_⟩
 |false=>
  exact isTrue_or (hb.then c' h2 hk λt Y' s' hk c'=>?_);cases t with
  |true=>show⟨Y',hk,c'.at_⟩
  |false=>show isTrue_or_nil ⟨Y',hk,c'.at_⟩
theorem At.stays{s0:Shared}(a:At J w bz own Y0 s0 Y s):bz.StaysIn s.heap:=a.2.1.stays
def Tt{vs:List V}{P:Prop}(h:few vs P):vs.length<900/\P:=by
 obtain⟨e,h⟩:=Al h;show⟨dT e,h⟩
def Aq(h:n<100000):n<=sizeLine:=by rw[cq];show⟨"A.16777216,A>100000",h⟩
theorem GE.list{s0:Shared}(a:At J w bz nil Y0 s0 Y s)(r:bD vs xs)(q:new (.lst xs) Q Y)(n:Nat)(hb:xs.length<=200000) :
  GE J w bz Y0 s0 Q (.ref s.heap.objs.size) { s with heap:=s.heap.push { cls:=.type "list",data:=.seq vs.toArray n},toks:=tk}:=
 ⟨_,_,.ref _,q _ (a.2.1.DS),a.add (nY _) rfl (λb o e=>aZ _ e) (.lst (n:=n) (cJ _ rfl) r hb)⟩
theorem GE.tup{s0:Shared}(a:At J w bz nil Y0 s0 Y s)(r:bD vs xs)(q:new (.tup xs) Q Y)(hb:xs.length<=200000) :
  GE J w bz Y0 s0 Q (.ref s.heap.objs.size) { s with heap:=s.heap.push { cls:=.type "tuple",data:=.seq vs.toArray},toks:=tk}:=
 ⟨_,_,.ref _,q _ (a.2.1.DS),a.add (nY _) rfl (λb o e=>aZ _ e) (.tup ⟨_,cJ _ rfl,rfl,_,rfl⟩ r hb)⟩
theorem alB{ex:Expr}(h:aW sc (.list l) ex=true):∃es pos,ex=.List es pos/\d9 sc l es=true:=
 Fp h λes p h=>⟨es,p,rfl,h⟩
theorem am7{ex:Expr}(h:aW sc (.tup l) ex=true):∃es k pos,ex=.Tuple es k pos/\d9 sc l es=true:=
 uG h λes k p h=>⟨es,k,p,rfl,h⟩
def alu(hl:nH l):SE (.list l):=by
 intros;intro n c ex aA Q X hw;obtain⟨es,pos,rfl,ho⟩:=alB aA;exact List_ (hl.then c ho hw λvs xs Y' s' hv hq c'=>?_);obtain⟨hn,hq⟩:=Tt hq;show tM (GE.list (tk:=s'.toks) c'.at_ hv hq 0 ⟨"A.200000,A>900",hn⟩) (by show vs.toArray.size<=sizeLine;rw[aM,hv.len];show Aq ⟨"A>100000,A>900",hn⟩)
def am6(hl:nH l):SE (.tup l):=by
 intros;intro n c ex aA Q X hw;obtain⟨es,k,pos,rfl,ho⟩:=am7 aA;exact Tuple_ (hl.then c ho hw λvs xs Y' s' hv hq c'=>?_);obtain⟨hn,hq⟩:=Tt hq;show tM (GE.tup (tk:=s'.toks) c'.at_ hv hq ⟨"A.200000,A>900",hn⟩) (by show vs.toArray.size<=sizeLine;rw[aM,hv.len];show Aq ⟨"A>100000,A>900",hn⟩)
theorem akB(h:Heap):(h.push { cls:=.type "dict",data:=.dict #[]}).DictAt (bT J w) h.objs.size [] 0:=
 ⟨_,#[],cJ _ rfl,⟨rfl,rfl,rfl⟩,rfl,λe he=>by simp at he,.nil,o9⟩
def akG:SE .gN:=by
 intros;intro n c ex aA Q X hw;have cG:newD [] Q Y:=hw;show Fj aA λ_ _ _ h=>fF h λa b=>bq a (bq b (wpAny_Dict_empty ⟨_,_,.ref _,cG 0 _ c.at_.2.1.DS,c.at_.add (tk:=s.toks) (nY _) rfl (λb o e=>aZ _ e) (.cu (akB _) .nil)⟩))
def Tv(P:ak){c k:Nat}(h:vS c k=true):attrOk (KF P) (c,k)=true:=by
 dsimp only[vS] at h;obtain⟨p,hp,h1⟩:=mr.mp h;rw[bx,bx] at h1;have h2:=aY.mp (akf P) p hp;obtain⟨⟨e1,e2⟩,e3⟩:=h1;have e1:=bL e1;have e2:=bL e2;obtain⟨a,b⟩:=p;dsimp only at e1 e2;subst e1 e2;rcases dO.mp h2 with h2 | h2
 ·nomatch h2,e3
 ·show h2
def OR.FJ{a c:Nat}(x:OR J w h a (.inst c fs)):∃d es n sl,h.get? a=some (DR c d sl)/\h.get? d=some (dictOf es n)/\Fl es fs:=by
 cases x with | inst e ed f=>show⟨_,_,_,_,e,ed,f⟩
theorem LW{a c d:Nat}{sl:Array (Option Value)}{es:List fk}(e:h.get? a=some (DR c d sl))(ed:h.get? d=some (dictOf es n)):InstAt h a (DR c d sl) (fC c) (some (dictOf es n)):=⟨e,rfl,rfl,ed⟩
def VR.in{x:V}(h:VR v x):handedIn v=true:=by cases h<;>rfl
def akH{E:Value->Shared->Prop}{a k:Nat}{c:Nat}{x:V}{expr:Bool}{Q:Value->Shared->Prop}(cx:Cx w bz)(I:Inv J w bz Y s.heap)(ha:Y a=some (.inst c fs))(ho:vS c k=true)(hk:lk fs k=some x)
  (h:∀v,VR v x->Q v { s with toks:=s.toks+1}):ae (ag J w) A (getAttr (.ref a) (nm k) expr) Q E s:=by
 obtain⟨d,es,n,sl,e,ed,f⟩:=(I.rep a _ ha).FJ;have F:=Tv w.params ho;dsimp only[attrOk] at F;simp only[bx] at F;obtain⟨⟨⟨⟨⟨f1,f2⟩,f3⟩,f4⟩,f5⟩,f6⟩:=F;rcases f.get k with⟨v,x',h1,h2,h3⟩ | ⟨_,h2⟩
 ·nomatch hk,h2
  show get_value (cx.k.keeps I.stays) (LW e ed) (uD f1).1 (findObj_own f2 (beq_iff_eq.mp f3) rfl h1) h3.in (h v h3)
 ·nomatch hk,h2
def Tw{env:aD}{v:Expr}{whole:Sem Value}(h:vQ v=true)(attr:Str):attributeBase v attr env whole=whole:=by
 induction v using dC
 case Call f a k p=>
  induction f using dC
  case Name id q=>
   induction a using cU
   ·induction k using cU
    ·show if_pos (by rw[show(id != ("super":Str))=true from h,rY,rY,rY])
    ·rfl
   ·rfl
  all_goals rfl
 all_goals rfl
theorem al6{a:E}{k:Nat}{ex:Expr}(h:aW sc (.attr a k) ex=true):∃v pos,ex=.Attribute v (nm k) pos/\aW sc a v=true/\vQ v=true:=
 jT h λv _ p h=>ie h λa e u=>jU e ⟨v,p,rfl,a,u⟩
def amc{a:E}{k:Nat}(ha:SE a):SE (.attr a k):=by
 intros;intro n c ex aA Q X hw;obtain⟨v,pos,rfl,ho,hs⟩:=al6 aA;exact Attribute_any_ (ha.then c ho hw λv x Y' s' hv hq c'=>?_) (by rw[zE,Tw hs]);exact bV hq hv λb hq=>?_;obtain⟨cl,fs,hb,hq⟩:=LC hq;obtain⟨hk,hq⟩:=Al hq;obtain⟨y,hl,hq⟩:=vR hq;rw[c'.wo.fw] at hk;show akH c'.cx c'.at_.2.1 hb hk hl λu hu=>⟨y,Y',hu,hq,c'.at_.toks⟩
theorem bD.ints:∀{vs:List Value}{l:List Int},bD vs (l.map V.int)->IntsAre vs l
 |_,[],h=>by cases h;show .nil
 |_,i::l,h=>by
  cases h with | cons h t=>cases h with | int i u=>show .cons i u (bD.ints t)
theorem Tz(h:bD vs xs):∀n,bD (bH n vs).flatten (bH n xs).flatten
 |0=>.nil
 |n+1=>by
  rw[lW,lW,sr,sr];show h.app (Tz h n)
def iC{a:Nat}(x:OR J w h a (.lst xs)):∃vs n,h.get? a=some (gh vs n)/\bD vs xs:=by
 cases x with | lst e v _=>show⟨_,_,e,v⟩
def uM{a:Nat}(x:OR J w h a (.tup xs)):∃vs,IsTup h a vs.toArray/\bD vs xs:=by
 cases x with | tup e v _=>show⟨_,e,v⟩
def an7{a:Nat}(x:OR J w h a (.fL xs)):∃vs,h.IsList a vs.toArray/\bD vs xs:=by
 cases x with | fL e v _=>show⟨_,e,v⟩
def adm{a:Nat}(x:OR J w h a (.lst xs)):xs.length<=200000:=by cases x with | lst _ _ b=>show b
def TB{a:Nat}(x:OR J w h a (.tup xs)):xs.length<=200000:=by cases x with | tup _ _ b=>show b
def ana{a:Nat}(x:OR J w h a (.fL xs)):xs.length<=200000:=by cases x with | fL _ _ b=>show b
theorem TC(xs:List V):∀n,(bH n xs).flatten.length=xs.length * n
 |0=>rfl
 |n+1=>by rw[lW,sr,cR,TC xs n,Nat.mul_succ];show⟨"A+B~B+A"⟩
def IY{a:Nat}(x:OR J w h a (.cu es ep)):∃ps,h.DictAt (bT J w) a ps ep/\Kv ps es:=by
 cases x with | cu e v=>show⟨_,e,v⟩
def wL{a:Nat}(x:OR J w h a (.cu es ep)):∃ps,h.DictOf (bT J w) a ps/\Kv ps es:=by
 obtain⟨ps,e,v⟩:=IY x;show⟨ps,e.dictOf,v⟩
def ajY{E:Value->Shared->Prop}{l:bU}{x:Int}{u:Tok}{Q:Value->Shared->Prop}(ho:s.heap.get? l=some (gh vs n))(wM:0<=x)(wN:x<200)(gx:vs.length * x.toNat<200)
  (h:Q (.ref s.heap.objs.size) { s with heap:=s.heap.push (gh (bH x.toNat vs).flatten 0)}):ae (ag J w) A (binaryOp .Mult (.ref l) (.int x u)) Q E s:=by
 have LX:vs.toArray.size * x.toNat<200:=by simpa using gx
 exact wpAny_binaryOp_repeat_ref (T:="list") (U:="int") (by decide) ⟨_,ho,rfl⟩ (λs'=>typeIs_int s' x u) noFill_list_mul F.fills_int_mul F.slot_int_rmul repeat_list F.slot_int_index.lookup
  (pN F.slot_int_rmul (typeIs_int s x u) F.entry_int_rmul (F.args_int_rmul_2 _ _) (lm_int_rmul_list_any x u l vs.toArray n none #[])
   ⟨ho,rfl,⟨_,ho,rfl⟩,pN F.slot_list_mul ⟨_,ho,rfl⟩ F.entry_list_mul (F.args_list_mul_2 _ _)
    (lm_list_mul_any l vs.toArray n none #[] x u (by simp[Builtin.List.listFitsIndex];show⟨bO (by decide) wM,gR wN (by decide)⟩) (kF.mpr (kE (mz LX) (by decide))) (by simp[uk,sizeLine];show⟨"A.16777216,A>200",gx⟩))
    ⟨ho,?_⟩⟩)
 rw[listMul_foldl_if];show h
def aj7{E:Value->Shared->Prop}{s0:Shared}{o:Ar}{p:pT}{x:V}(a:At J w bz nil Y0 s0 Y s)(ho:K4 p o=true)(hv:VR v x)(hu:VR u y)(h:arith o x y Q Y) :
  ae (ag J w) A (binaryOp p v u) (GE J w bz Y0 s0 Q) E s:=by
 rw[of_decide_eq_true ho];cases o with
 |add=>show a8 h hv λi t h=>a8 h hu λj t' h=>P.add_int ⟨_,Y,.int _ _,h,a.toks⟩
 |sub=>show a8 h hv λi t h=>a8 h hu λj t' h=>P.sub_int ⟨_,Y,.int _ _,h,a.toks⟩
 |mul=>show a8 h hv λi t h=>a8 h hu λj t' h=>P.mul_int ⟨_,Y,.int _ _,h.2,a.toks⟩ (IntMulOk.of_left (intBits_le_64 (Int.neg_lt_of_neg_lt (gR (kj (rZ i ▸ yq) (r4.mpr h.1.1)) (by decide))) (gR (kj yq (r4.mpr h.1.1)) (by decide))))
 |fdiv=>show a8 h hv λi t h=>a8 h hu λj t' h=>PyProof.Rows.floordiv_int (Int.ne_of_gt h.1.1) ⟨_,Y,.int _ _,h.2,a.toks⟩ (.inl (PyProof.noPylong_small (r4.mp (gR (lT (cH h.1.1) ▸ h.1.2) (by decide)))))
 |mod=>show a8 h hv λi t h=>a8 h hu λj t' h=>PyProof.Rows.mod_int (Int.ne_of_gt h.1) ⟨_,Y,.int _ _,h.2,a.toks⟩
 |cat=>
  exact bV h hv λb h=>bV h hu λd h=>?_;obtain⟨xs,e1,h⟩:=rJ h;obtain⟨ys,e2,h⟩:=rJ h;obtain⟨vs,n1,g1,r1⟩:=iC (a.2.1.rep _ _ e1);obtain⟨ws,n2,g2,r2⟩:=iC (a.2.1.rep _ _ e2);exact P.add_list g1 g2 ?_ (by rw[aM,aM,r1.len,r2.len];show Aq h.1);rw[List.append_toArray];show GE.list (tk:=s.toks) a (r1.app r2) h.2 0 (by rw[cR];have h1:xs.length+ys.length<100000:=h.1;show⟨"A+B.200000,A+B>100000",h1⟩)
 |rep=>
  exact bV h hv λb h=>a8 h hu λi t h=>?_;obtain⟨xs,e1,h⟩:=rJ h;obtain⟨vs,n1,g1,r1⟩:=iC (a.2.1.rep _ _ e1);show ajY g1 h.1.1 h.1.2.1 (by rw[r1.len];show h.1.2.2) (GE.list (tk:=s.toks) a (Tz r1 _) h.2 0 (by rw[TC];have:=h.1.2.2;show⟨"A.200000,A>200",h.1.2.2⟩))
theorem apn{o:Ar}{a:E}{ex:Expr}(h:aW sc (.ar o a b) ex=true):∃l p r pos,ex=.BinOp l p r pos/\K4 p o=true/\aW sc a l=true/\aW sc b r=true:=
 Fi h λl p r q h=>ie h λa b c=>⟨l,p,r,q,rfl,a,b,c⟩
def api{o:Ar}{a:E}(ha:SE a)(hb:SE b):SE (.ar o a b):=by
 intros;intro n c ex aA Q X hw;obtain⟨l,p,r,pos,rfl,h1,h2,h3⟩:=apn aA;show wpAny_BinOp (ha.then c h2 hw λv x Y' s' hv hq c'=>hb.then c' h3 hq λu y iQ jv hu dH de=>aj7 de.at_ h1 hv hu dH)
def ajL(k:Nat):Ab (nm k)=true:=by
 have z:(lA.all λx=>Ab (ax x))=true:=by decide +kernel
 rcases dq k 125 with h | h
 ·have hk:k<lA.length:=by rw[DK];show h
  have h1:=aY.mp z lA[k] (gU hk);rw[DN h,fQ,aS hk];show h1
 ·rw[DP h];show(bH k 97).toArray.all (λn=>decide (n<0x110000))=true;rw[<-Array.all_toList];exact aY.mpr λx hx=>?_;have ju:x∈bH k 97:=hx;rw[List.eq_of_mem_replicate ju];rfl
mutual
noncomputable def Da.py:Da->PyData
 | .none=>.none
 | .bool b=>.bool b
 | .int i=>.int i
 | .str k=>.str (nm k)
 | .lst l=>.list (Da.qi l)
 | .tup l=>.tuple (Da.qi l)
noncomputable def Da.qi:List Da->List PyData
 | []=>[]
 |d::l=>Da.py d::Da.qi l
end
theorem Rd.py(R:∀a o,Y a=some o->OR J w h a o){v:V}{d:Da}(r:Rd Y v d):∀{u:Value},VR u v->∃as,Reads h u d.py as:=
 Rd.rec (motive_1:=λv d _=>∀{u:Value},VR u v->∃as,Reads h u d.py as) (motive_2:=λvs ds _=>∀{us:List Value},bD us vs->∃as,ReadsAll h us (Da.qi ds) as)
  (λr=>by rw[r.DQ];show⟨_,.none⟩) (λb {_} r=>by rw[r.Lz];show⟨_,.bool b⟩) (λi {_} r=>by obtain⟨t,rfl⟩:=r.Fx;show⟨_,.int i _⟩) (λk {_} r=>by obtain⟨t,rfl⟩:=r.apk;show⟨_,.str _ _⟩)
  (λ{_ _ _} e _ ih {_} r=>by
   rw[r.wJ];obtain⟨vs,n,g,q⟩:=iC (R _ _ e);obtain⟨as,z⟩:=ih q;show⟨_,.list g rfl rfl z⟩)
  (λ{_ _ _} e _ ih {_} r=>by
   rw[r.wJ];obtain⟨vs,⟨o,g,hc,n,hd⟩,q⟩:=uM (R _ _ e);obtain⟨as,z⟩:=ih q;show⟨_,.tuple g hc hd z⟩)
  (λr=>by cases r;show⟨_,.nil⟩)
  (λ{_ _ _ _} _ _ i1 i2 {_} r=>by
   cases r with | cons r rs=>
   obtain⟨as,z⟩:=i1 r;obtain⟨bs,y⟩:=i2 rs;show⟨_,.cons z y⟩) r
mutual
theorem Da.lay:∀d:Da,d.py.canLay0=true
 | .none=>rfl
 | .bool b=>rfl
 | .int i=>rfl
 | .str k=>ajL k
 | .lst l=>Da.lays l
 | .tup l=>Da.lays l
theorem Da.lays:∀l:List Da,Ac (Da.qi l)=true
 | []=>rfl
 |d::l=>by
  show(PyData.canLay0 d.py && Ac (Da.qi l))=true;rw[Da.lay d,Da.lays l];rfl
end
mutual
theorem Da.depth:∀d:Da,d.py.depth=d.deep
 | .none=>rfl
 | .bool b=>rfl
 | .int i=>rfl
 | .str k=>rfl
 | .lst l=>by show p9 (Da.qi l)+1=Da.qM l+1;rw[Da.LY l]
 | .tup l=>by show p9 (Da.qi l)+1=Da.qM l+1;rw[Da.LY l]
theorem Da.LY:∀l:List Da,p9 (Da.qi l)=Da.qM l
 | []=>rfl
 |d::l=>by show max (PyData.depth d.py) (p9 (Da.qi l))=max d.deep (Da.qM l);rw[Da.depth d,Da.LY l]
end
mutual
theorem Da.eqv:∀d e:Da,Ae d.py e.py=Da.eq d e
 | .none,e=>by cases e<;>rfl
 | .bool a,e=>by cases e<;>first | rfl | (show((if a then 1 else 0:Int) == _)=decide _;rfl)
 | .int a,e=>by cases e<;>first | rfl
 | .str a,e=>by
  cases e<;>first
   |rfl
   |(rename_i b
     show(nm a == nm b)=ai a b;cases q:ai a b with
     |true=>rw[bL q];simp
     |false=>simp only[beq_eq_false_iff_ne];intro e;rw[BR e] at q;simp at q)
 | .lst l,e=>by cases e<;>first | rfl | (rename_i r;show Da.LZ l r)
 | .tup l,e=>by cases e<;>first | rfl | (rename_i r;show Da.LZ l r)
theorem Da.LZ:∀l r:List Da,Ad (Da.qi l) (Da.qi r)=Da.eqs l r
 | [],[]=>rfl
 | [],_::_=>rfl
 |_::_,[]=>rfl
 |d::l,e::r=>by show(Ae d.py e.py && Ad (Da.qi l) (Da.qi r))=(Da.eq d e && Da.eqs l r);rw[Da.eqv d e,Da.LZ l r]
end
def TF{p':Program}{w':aK}{a:Nat}{ps:List (Int×Value)}(x:h.DictOf (bT J w) a ps):h.DictOf (bT p' w') a ps:=by
 obtain⟨o,es,ep,h1,h2,h3,h4,h5,h6⟩:=x;exact⟨o,es,ep,h1,h2,h3,h4,?_,h6⟩;clear h6 h4 h3;generalize es.toList=l at h5;induction h5 with
 |nil=>show .nil
 |cons a b _ ih=>show .cons a b ih
def Inv.noSys(cx:Cx w bz)(I:Inv J w bz Y h){a:Nat}{o:O}(e:Y a=some o)(m:o.mut=true):(a == sysModules)=false:=by
 rw[beq_eq_false_iff_ne];rintro rfl;obtain⟨ob,hb⟩:=cx.LR;show I.old _ _ hb (.inl ⟨o,e,m⟩)
def Kv.none{ps:List (Int×Value)}(h:Kv ps es){i:Int}(e:fB es i=aP):pG ps i=aP:=by
 induction h with
 |nil=>rfl
 |cons hv tl ih=>
  rename_i j v y ps es;dsimp only[fB] at e;unfold pG;by_cases hj:j=i
  ·nomatch if_pos hj,e
  ·rewrite [if_neg hj] at e
   rw[fV];simp only[hj,decide_false];show ih e
def alJ(h:rD es){i:Int}{x:V}(e:fB es i=some x):∃j,x=.int j:=by
 induction es with
 |nil=>cases e
 |cons p r ih=>
  obtain⟨k,v⟩:=p;dsimp only[fB] at e;by_cases hk:k=i
  ·nomatch if_pos hk,e.symm;show h (k,x) (.head _)
  ·rewrite [if_neg hk] at e;show ih (λp hp=>h p (.tail _ hp)) e
def alF{kb:List (Int×Value)}{e:List (Int×V)}(hb:Kv kb e)(he:rD e){ka:List (Int×Value)}{d:List (Int×V)}(x:Kv ka d):rD d->∃r,KeqHits A s kb ka r/\(r=true↔∀p∈d,∃i,p.2=.int i/\fB e p.1=some (.int i)):=by
 induction x with
 |nil=>intro _;show⟨true,.nil,by simp⟩
 |@cons k v x ps es hv tl ih=>
  intro hd;obtain⟨r,h1,h2⟩:=ih λp hp=>hd p (.tail _ hp);obtain⟨i,hi⟩:=hd (k,x) (.head _);dsimp only at hi;subst hi;cases hv with
  |int i t=>
   cases q:fB e k with
   |none=>
    exact⟨false,.miss (hb.none q),by simp,λz=>?_⟩;obtain⟨j,_,z2⟩:=z (k,.int i) (.head _);dsimp only at z2
    nomatch q,z2
   |some y=>
    obtain⟨j,rfl⟩:=alJ he q;obtain⟨u,hu,hr⟩:=hb.at q;cases hr with
    |int j t'=>
     exact⟨(i == j) && r,.hit hu ((MeetsSeq.EqGives.int i j t t').at _ _) h1,?_⟩;rw[bx,h2,beq_iff_eq];constructor
     ·rintro⟨rfl,z⟩ p hp;rcases az.mp hp with rfl | hp
      ·show⟨i,rfl,q⟩
      ·show z p hp
     ·intro z;exact⟨?_,λp hp=>z p (.tail _ hp)⟩;obtain⟨j',z1,z2⟩:=z (k,.int i) (.head _);dsimp only at z1 z2;cases z1
      rewrite [q] at z2;clear hd z;cases z2;rfl
def TG{vs:List V}{ds:List (List (Int×V))}(h:qO Y vs ds):vs.length=ds.length:=by
 induction h with
 |nil=>rfl
 |cons _ _ _ ih=>simp[ih]
def TH{vs:List V}{ds:List (List (Int×V))}(h:qO Y vs ds):∀{j:Nat}{d:List (Int×V)},ds[j]?=some d->∃a ep,vs[j]?=some (.ref a)/\Y a=some (.cu d ep)/\rD d:=by
 induction h with
 |nil=>intro j d e;simp at e
 |cons h1 h2 _ ih=>intro j d e;cases j with
  |zero=>simp at e;subst e;show⟨_,_,rfl,h1,h2⟩
  |succ j=>simp at e;obtain⟨a,ep,q⟩:=ih e;show⟨a,ep,by simpa using q⟩
def alW{a b:Nat}{d e:List (List (Int×V))}(cx:Cx w bz)(I:Inv J w bz Y s.heap)(hu:A.units+70<cLine)(ha:Y a=some (.lst xs))(hb:Y b=some (.lst ys))(hd:qO Y xs d)(he:qO Y ys e) :
  ∃r:Bool,(r=true↔d.length=e.length/\∀p∈d.zip e,wy p.1 p.2)/\(∀{E:Value->Shared->Prop}{Q:Value->Shared->Prop},Q (.bool r) s->ae (ag J w) A (gY .Eq (.ref a) (.ref b)) Q E s)/\(∀{E:Value->Shared->Prop}{Q:Value->Shared->Prop},Q (.bool (!r)) s->ae (ag J w) A (gY .NotEq (.ref a) (.ref b)) Q E s):=by
 obtain⟨vs,n1,g1,r1⟩:=iC (I.rep _ _ ha);obtain⟨us,n2,g2,r2⟩:=iC (I.rep _ _ hb);have l1:s.heap.IsList a vs.toArray:=⟨_,g1,rfl,_,rfl⟩;have l2:s.heap.IsList b us.toArray:=⟨_,g2,rfl,_,rfl⟩;have e1:=r1.len.trans (TG hd);have e2:=r2.len.trans (TG he);have FK:A.units<cLine:=⟨"A>B,A+70>B",hu⟩;by_cases hl:d.length=e.length
 ·have gx:vs.toArray.size=us.toArray.size:=by rw[aM,aM,e1,e2,hl]
  have key:∀j,∃q:Bool,(∀(h1:j<vs.toArray.size) (h2:j<us.toArray.size),SeqAt.EqAt A.in1 s vs.toArray[j] us.toArray[j] q)/\(∀x y,d[j]?=some x->e[j]?=some y->(q=true↔wy x y)):=by
   intro j;by_cases hj:j<d.length
   ·have L0:j<e.length:=hl ▸ hj;obtain⟨x,ep1,z1,z2,z3⟩:=TH hd (aS hj);obtain⟨y,ep2,y1,y2,y3⟩:=TH he (aS L0);obtain⟨v,v1,v2⟩:=r1.get z1;obtain⟨u,u1,u2⟩:=r2.get y1;cases v2;cases u2;obtain⟨ka,L1,IZ⟩:=wL (I.rep _ _ z2);obtain⟨kb,kb1,kb2⟩:=wL (I.rep _ _ y2);obtain⟨r,q1,q2⟩:=alF (A:=A.in1.in1) (s:=s) kb2 y3 IZ z3;have sx:=I.noSys cx z2 rfl;have sy:=I.noSys cx y2 rfl;have hlen:(ka.length == kb.length)=((d[j]).length == (e[j]).length):=by rw[IZ.len,kb2.len]
    by_cases DV:x=y
    ·subst DV
     rewrite [z2] at y2
     have L3:d[j]=e[j]:=by injection y2 with y2;injection y2
     have all:r=true:=q2.mpr λp hp=>by
      obtain⟨i,hi⟩:=z3 p hp;exact⟨i,hi,?_⟩;have nd:((d[j]).map (·.1)).Nodup:=IZ.keys ▸ (let ⟨_,_,_,_,_,_,_,_,n⟩:=L1;n);rw[<-L3];clear q2 q1 hlen kb2 kb1 z2 y2 z3 y3 IZ L1 L3 z1 y1;generalize d[j]=dj at hp nd;induction dj with
      |nil=>cases hp
      |cons q r ih=>
       obtain⟨k,v⟩:=q;dsimp only[fB]
       rewrite [bQ,aX] at nd
       rcases az.mp hp with rfl | hp
       ·rw[if_pos rfl];show congrArg some hi
       ·rw[if_neg (λq=>nd.1 (aQ.mpr ⟨p,hp,q.symm⟩))];show ih hp nd.2
     exact⟨true,λh1 h2=>?_,λx' y' hx hy=>?_⟩
     ·have w1:vs.toArray[j]=.ref x:=by rw[oR];show(iY.mp v1).2
      have w2:us.toArray[j]=.ref x:=by rw[oR];show(iY.mp u1).2
      rw[w1,w2];show SeqAt.EqAt.same _
     ·rewrite [aS hj] at hx
      rewrite [aS L0] at hy
      cases hx;cases hy
      show⟨λ_=>⟨by rw[L3],q2.mp all⟩,λ_=>rfl⟩
    ·exact⟨(d[j]).length == (e[j]).length && r,λh1 h2=>?_,λx' y' hx hy=>?_⟩
     ·have w1:vs.toArray[j]=.ref x:=by rw[oR];show(iY.mp v1).2
      have w2:us.toArray[j]=.ref y:=by rw[oR];show(iY.mp u1).2
      rw[w1,w2];exact SeqAt.EqAt.of_refs DV λp' w' E Q hq=>?_;show keq_eq (knd:=bT p' w') sx sy (TF L1) (TF kb1) (by show A.units+1<cLine;show⟨"A+1>B,A+70>B",hu⟩) (λ_=>q1) (by rw[hlen];show hq)
     ·rewrite [aS hj] at hx
      rewrite [aS L0] at hy
      cases hx;cases hy
      rw[bx,beq_iff_eq,q2];rfl
   ·exact⟨true,λh1 _=>?_,λx y hx _=>?_⟩
    ·rewrite [aM,e1] at h1;show absurd h1 hj
    ·nomatch di (kF.mp hj),hx
  let q:Nat->Bool:=λj=>Classical.choose (key j)
  have hq:∀j,(∀(h1:j<vs.toArray.size) (h2:j<us.toArray.size),SeqAt.EqAt A.in1 s vs.toArray[j] us.toArray[j] (q j))/\(∀x y,d[j]?=some x->e[j]?=some y->(q j=true↔wy x y)):=λj=>Classical.choose_spec (key j);exact⟨(dA vs.toArray.size).all q,?_,λh=>(SeqAt.RcAt.lists l1 l2 gx FK λj h1 h2=>(hq j).1 h1 h2) J w _ _ h,λh=>(SeqAt.RcNeAt.lists l1 l2 gx FK λj h1 h2=>(hq j).1 h1 h2) J w _ _ h⟩;rw[aY];constructor
  ·intro z;exact⟨hl,λp hp=>?_⟩;obtain⟨j,hj,e'⟩:=gT hp
   rewrite [iZ] at hj
   have j1:j<d.length:=⟨"A>B,A>C,C.B",hj,fe _ _⟩;have j2:j<e.length:=⟨"A>B,C~B,A>C",hl,j1⟩
   rewrite [oX] at e'
   subst e';show((hq j).2 _ _ (aS j1) (aS j2)).mp (z j (gW.mpr (by rw[aM,e1];show j1)))
  ·rintro⟨_,z⟩ j hj;have j1:j<d.length:=by have:=gW.mp hj;rewrite [aM,e1] at this;show this
   have j2:j<e.length:=hl ▸ j1;exact((hq j).2 _ _ (aS j1) (aS j2)).mpr (z (d[j],e[j]) ?_);have jz:j<(d.zip e).length:=by rw[iZ];show Nat.lt_min.mpr ⟨j1,j2⟩
   have:=gU jz
   rwa [oX] at this
 ·have gx:(vs.toArray.size != us.toArray.size)=true:=by rw[aM,aM,e1,e2];simpa using hl
  show⟨false,by simp[hl],λh=>(SeqAt.RcAt.lists_lengths l1 l2 gx FK) J w _ _ h,λh=>(SeqAt.RcNeAt.lists_lengths l1 l2 gx FK) J w _ _ h⟩
def I0{d:Da}(h:d.deep<20):SeqAt.shaped d.py=true:=by
 unfold SeqAt.shaped;rw[d.lay,d.depth,rX];show decide_eq_true ⟨"A.64,A>20",h⟩
def EqR(J:Program)(w:aK)(A:bp)(v u:Value)(s:Shared)(r:Bool):Prop:=(∀{E:Value->Shared->Prop}{Q:Value->Shared->Prop},Q (.bool r) s->ae (ag J w) A (gY .Eq v u) Q E s)/\(∀{E:Value->Shared->Prop}{Q:Value->Shared->Prop},Q (.bool (!r)) s->ae (ag J w) A (gY .NotEq v u) Q E s)
def L4(J:Program)(w:aK)(A:bp)(v u:Value)(s:Shared)(b:Bool):Prop:=(∀{E:Value->Shared->Prop}{Q:Value->Shared->Prop},Q (.bool b) s->ae (ag J w) A (gY .Is v u) Q E s)/\(∀{E:Value->Shared->Prop}{Q:Value->Shared->Prop},Q (.bool (!b)) s->ae (ag J w) A (gY .IsNot v u) Q E s)
def I5{v:V}{d:Da}(h:KD v=some d):Rd Y v d/\d.deep<20:=by
 have z:=Nat.succ_pos 19;induction v using V.casesOn
 ·obtain rfl:=bR h;show⟨.none,z⟩
 ·obtain rfl:=bR h;show⟨.bool _,z⟩
 ·obtain rfl:=bR h;show⟨.int _,z⟩
 ·obtain rfl:=bR h;show⟨.str _,z⟩
 ·cases h
 ·cases h
def apo{d e:Da}{b:Bool}(h:sD d e=some b):Da.eq d e=b:=by
 induction d using Da.casesOn<;>induction e using Da.casesOn<;>first | show bR h | cases h
def am9{x:V}{b:Bool}(h:sEq x y=some b):∃d e,Rd Y x d/\Rd Y y e/\d.deep<20/\e.deep<20/\Da.eq d e=b:=by
 obtain⟨d,hd,h⟩:=zc.mp h;obtain⟨e,he,h⟩:=zc.mp h;show⟨d,e,(I5 hd).1,(I5 he).1,(I5 (Y:=Y) hd).2,(I5 (Y:=Y) he).2,apo h⟩
def alE{x:V}{K:Bool->Prop}(h:eqs x y K Y):(∃d e,Rd Y x d/\Rd Y y e/\d.deep<20/\e.deep<20/\K (Da.eq d e))\/∃a b xs ys d e,x=.ref a/\y=.ref b/\Y a=some (.lst xs)/\Y b=some (.lst ys)/\qO Y xs d/\qO Y ys e/\((d.length=e.length/\∀p∈d.zip e,wy p.1 p.2)->K true)/\(¬ (d.length=e.length/\∀p∈d.zip e,wy p.1 p.2)->K false):=by
 have t:qc (sEq x y) K->∃d e,Rd Y x d/\Rd Y y e/\d.deep<20/\e.deep<20/\K (Da.eq d e):=λh=>by
  obtain⟨b,e,h⟩:=vR h;obtain⟨d,e,h1,h2,h3,h4,h5⟩:=am9 (Y:=Y) e;show⟨d,e,h1,h2,h3,h4,h5 ▸ h⟩
 cases x with
 |ref a=>cases y with
  |ref b=>show h
  |_=>show .inl (t h)
 |_=>show .inl (t h)
def TJ{x:V}{K:Bool->Prop}(cx:Cx w bz)(I:Inv J w bz Y s.heap)(hA:A.units+70<cLine)(hv:VR v x)(hu:VR u y)(h:eqs x y K Y):∃r:Bool,K r/\EqR J w A v u s r:=by
 rcases alE h with⟨d,e,rd,re,hd,he,hk⟩ | ⟨a,b,xs,ys,d,e,rfl,rfl,ha,hb,hd,he,k1,k2⟩
 ·obtain⟨as,z1⟩:=Rd.py I.rep rd hv;obtain⟨bs,z2⟩:=Rd.py I.rep re hu;show⟨_,hk,λq=>eq_dataH z1 z2 (I0 hd) (I0 he) ⟨"A+64>B,A+70>B",hA⟩ (by rw[Da.eqv];show q),λq=>ne_dataH z1 z2 (I0 hd) (I0 he) ⟨"A+64>B,A+70>B",hA⟩ (by rw[Da.eqv];show q)⟩
 ·rw[hv.wJ,hu.wJ];obtain⟨r,q1,q2,q3⟩:=alW (A:=A) cx I hA ha hb hd he;exact⟨r,?_,q2,q3⟩;clear q2 q3;cases r with
  |true=>show k1 (q1.mp rfl)
  |false=>show k2 λz=>by have:=q1.mpr z;cases this
def L4.pl{b c:Bool}(hp:plainIs v u=true)(e:(v == u)=c)(h:some c=some b):L4 J w A v u s b:=by
 rw[<-bR h,<-e];show⟨λq=>wpAny_is_plain hp q,λq=>wpAny_isNot_plain hp q⟩
def TK{o:Option O}(h:wA o=true):∃c fs,o=some (.inst c fs):=by
 induction o using dr
 ·show(aF h).elim
 ·rename_i o;induction o using O.casesOn<;>first | show⟨_,_,rfl⟩ | show(aF h).elim
def TL{x:V}{b:Bool}(I:Inv J w bz Y s.heap)(hv:VR v x)(hu:VR u y)(h:same Y x y=some b):L4 J w A v u s b:=by
 cases x with
 |none=>
  rw[hv.DQ];cases y with
  |none=>rw[hu.DQ];show .pl rfl rfl h
  |ref a=>rw[hu.wJ];show .pl rfl rfl h
  |int i=>obtain⟨t,rfl⟩:=hu.Fx;show .pl rfl rfl h
  |bool d=>rw[hu.Lz];show .pl rfl rfl h
  |_=>cases h
 |int i=>obtain⟨t,rfl⟩:=hv.Fx;cases y with
  |none=>rw[hu.DQ];show .pl rfl rfl h
  |_=>cases h
 |bool d=>rw[hv.Lz];cases y with
  |none=>rw[hu.DQ];show .pl rfl rfl h
  |_=>cases h
 |ref a=>
  rw[hv.wJ];cases y with
  |none=>rw[hu.DQ];show .pl rfl rfl h
  |ref a'=>
   rw[hu.wJ];have h':(bif wA (Y a) && wA (Y a') then some (ai a a') else none)=some b:=h;cases z:wA (Y a) && wA (Y a') with
   |false=>nomatch z,h'
   |true=>
   rewrite [z] at h'
   have e3:=bR h';obtain⟨c,fs,e1⟩:=TK (dN.mp z).1;obtain⟨c',fs',e2⟩:=TK (dN.mp z).2;clear h h' z;obtain⟨d,es,n,sl,g,_⟩:=(I.rep _ _ e1).FJ;obtain⟨d',fG,n',SN,g',_⟩:=(I.rep _ _ e2).FJ;cases q:ai a a' with
   |true=>
    rw[<-e3,q,bL q];show⟨λq=>wpAny_is_ref_self q,λq=>wpAny_isNot_ref_self q⟩
   |false=>
    have ne:a≠a':=λe=>by nomatch e,my,q
    rw[<-e3,q];show⟨λq=>kto_is g g' ne (λe=>by cases e) q,λq=>kto_isnot g g' ne (λe=>by cases e) q⟩
  |_=>cases h
 |_=>cases h
def TN{l:List Int}{i:Int}:l.any (· == i)=l.contains i:=by
 induction l with
 |nil=>rfl
 |cons a r ih=>
  rw[pg,yJ,ih]
  congr 1
  show Bool.eq_iff_iff.mpr ⟨λh=>by rw[beq_iff_eq] at h ⊢;show h.symm,λh=>by rw[beq_iff_eq] at h ⊢;show h.symm⟩
def DW{E:Value->Shared->Prop}{o:Cm}{p:jf}{x:V}{K:Bool->Prop}{Q:Value->Shared->Prop}(cx:Cx w bz)(I:Inv J w bz Y s.heap)(hA:A.units+70<cLine)(ho:wD p o=true)(hv:VR v x)(hu:VR u y)(h:cmp o x y K Y)(q:∀t,K t->Q (.bool t) s) :
  ae (ag J w) A (gY p v u) Q E s:=by
 rw[of_decide_eq_true ho];clear ho;cases o with
 |lt=>show a8 h hv λi t h=>a8 h hu λj t' h=>P.lt_int (q _ h)
 |le=>show a8 h hv λi t h=>a8 h hu λj t' h=>P.le_int (q _ h)
 |gt=>show a8 h hv λi t h=>a8 h hu λj t' h=>P.gt_int (q _ h)
 |ge=>show a8 h hv λi t h=>a8 h hu λj t' h=>P.ge_int (q _ h)
 |eq=>
  obtain⟨r,k,z⟩:=TJ cx I hA hv hu h;show z.1 (q _ k)
 |ne=>
  obtain⟨r,k,z⟩:=TJ (K:=λb=>K (!b)) cx I hA hv hu h;show z.2 (q _ k)
 |«is»=>
  obtain⟨b,e,h⟩:=vR h;show(TL I hv hu e).1 (q _ h)
 |cM=>
  obtain⟨b,e,h⟩:=vR h;show(TL I hv hu e).2 (q _ h)
 |wq=>
  exact a8 h hv λi t h=>bV h hu λa h=>?_;obtain⟨_,e | e,l,rfl,hk⟩:=anT h
  ·obtain⟨vs,n,g,r⟩:=iC (I.rep _ _ e);show notin_list_ints (dZ g) r.ints (by rw[TN];show q _ hk)
  ·obtain⟨vs,g,r⟩:=uM (I.rep _ _ e);show notin_tuple_ints g r.ints (by rw[TN];show q _ hk)
def I6{ex:Expr}{p:jf}(h:ns 7 ex=true):behindInMarks p ex=false:=by
 induction ex using dC<;>first | rfl | show(aF h).elim
theorem TP{o:Cm}{a:E}{ex:Expr}(h:aW sc (.cmp o a b) ex=true):∃l p r pos,ex=.Compare l [p] [r] pos/\wD p o=true/\aW sc a l=true/\aW sc b r=true/\ns 7 r=true:=
 BF h λl _ _ q h=>dv h λp h=>dv h λr h=>BK h λa b c d=>⟨l,p,r,q,rfl,a,b,c,d⟩
def Cn.room{F:dw}{f:Act}{s0:Shared}(c:Cn J w bz F W A f sc m Y0 s0 Y s n):A.units+80<cLine:=by
 have:=c.rm.units;show A.units+80<9900;show⟨"A+80>9900,A+40*(B+1)+100.9000",this⟩
def aol{o:Cm}{a:E}(ha:SE a)(hb:SE b):SE (.cmp o a b):=by
 intros;intro n c ex aA Q X hw;obtain⟨l,p,r,pos,rfl,h1,h2,h3,h4⟩:=TP aA;show wpAny_Compare1 (ha.then c h2 hw λv x Y' s' hv hq c'=>hb.then c' h3 hq λu y iQ jv hu dH de=>
  DW de.cx de.at_.2.1 (by have:=de.room;show⟨"A+70>B,A+80>B",this⟩) h1 hv hu dH λt ht=>⟨_,iQ,.bool t,ht,de.at_⟩) (I6 h4)
def aon{o:Cm}{a:E}(ha:SE a)(hb:SE b):SB (.cmp o a b):=by
 intros;intro n c ex aA K X hw;obtain⟨l,p,r,pos,rfl,h1,h2,h3,h4⟩:=TP aA;have cG:wE W a m (λv s=>wE W b m (λw s=>cmp o v w (λt=>truth (.bool t) λt=>K t s) s) X s) X Y:=hw;show wpAny_isTrue_Compare1 (ha.then c h2 cG λv x Y' s' hv hq c'=>hb.then c' h3 hq λu y iQ jv hu dH de=>
  DW de.cx de.at_.2.1 (by have:=de.room;show⟨"A+70>B,A+80>B",this⟩) h1 hv hu dH λt ht=>gX ⟨iQ,ht,de.at_⟩) (I6 h4)
theorem TQ{o u:Cm}{a d:E}{ex:Expr}(h:aW sc (.lj o u a b d) ex=true):∃l p q r t pos,ex=.Compare l [p,q] [r,t] pos/\wD p o=true/\wD q u=true/\aW sc a l=true/\aW sc b r=true/\aW sc d t=true/\ns 7 t=true:=
 BF h λl _ _ z h=>jq h λp q h=>jq h λr t h=>BM h λa b c d e f=>⟨l,p,q,r,t,z,rfl,a,b,c,d,e,f⟩
theorem I7{p q:jf}{r t:Expr}(h:behindInMarks q t=false):lastMarks [p,q] [r,t]=false:=h
def amj{o u:Cm}{a d:E}(ha:SE a)(hb:SE b)(hd:SE d):SE (.lj o u a b d):=by
 intros;intro n c ex aA Q X hw;obtain⟨l,p,q,r,t,pos,rfl,h1,As,h2,h3,h4,h5⟩:=TQ aA;exact Compare_chain (ha.then c h2 hw λv x Y' s' hv hq c'=>?_) (I7 (I6 h5));exact chain_link (hb.then c' h3 hq λu y iQ jv hu dH de=>?_);exact DW de.cx de.at_.2.1 (by have:=de.room;show⟨"A+70>B,A+80>B",this⟩) h1 hv hu dH λt ht=>gX ?_;cases t with
 |false=>show⟨_,iQ,.bool false,ht,de.at_⟩
 |true=>show chain_last (hd.then de h4 ht λu' y' Y3 s3 FL L5 c3=>
   DW c3.cx c3.at_.2.1 (by have:=c3.room;show⟨"A+70>B,A+80>B",this⟩) As hu FL L5 λt ht=>⟨_,Y3,.bool t,ht,c3.at_⟩)
def amt{o u:Cm}{a d:E}(ha:SE a)(hb:SE b)(hd:SE d):SB (.lj o u a b d):=by
 intros;intro n c ex aA K X hw;obtain⟨l,p,q,r,t,pos,rfl,h1,As,h2,h3,h4,h5⟩:=TQ aA;have cG:wE W a m (λv s=>wE W b m (λw s=>cmp o v w (λt=>match t with
  |true=>wE W d m (λz s=>cmp u w z (λt=>truth (.bool t) λt=>K t s) s) X s
  |false=>truth (.bool false) λt=>K t s) s) X s) X Y:=hw
 exact isTrue_chain (ha.then c h2 cG λv x Y' s' hv hq c'=>?_) (I7 (I6 h5));exact test_link (hb.then c' h3 hq λu y iQ jv hu dH de=>?_);exact DW de.cx de.at_.2.1 (by have:=de.room;show⟨"A+70>B,A+80>B",this⟩) h1 hv hu dH λt ht=>gX ?_;cases t with
 |false=>show⟨iQ,ht,de.at_⟩
 |true=>show test_last (hd.then de h4 ht λu' y' Y3 s3 FL L5 c3=>
   DW c3.cx c3.at_.2.1 (by have:=c3.room;show⟨"A+70>B,A+80>B",this⟩) As hu FL L5 λt ht=>gX ⟨Y3,ht,c3.at_⟩)
def TS{i:Int}{x:V}(h:ix xs i=some x):∃j,seqIndex? i xs.length=some j/\xs[j]?=some x/\-(xs.length:Int)<=i/\i<xs.length/\(0<=i->j=i.toNat)/\(¬ 0<=i->j=(i+xs.length).toNat):=by
 unfold ix at h;unfold seqIndex?;split at h
 ·rename_i h0;have hj:=(iY.mp h).1;exact⟨i.toNat,?_,h,bO (Int.neg_nonpos_of_nonneg (oJ _)) h0,⟨"a<'A,B>A,'B=a;1,1,-1",hj,aH ⟨"0:a,0:a",h0⟩⟩,λ_=>rfl,λz=>absurd (by assumption) z⟩;have c:((0<=(if i<0 then i+(xs.length:Int) else i):Bool) && ((if i<0 then i+(xs.length:Int) else i)<(xs.length:Int):Bool))=true:=by
   rw[if_neg ⟨"!a<0,0:a",h0⟩];rw[bx];show⟨decide_eq_true h0,decide_eq_true ⟨"a<'A,B>A,'B=a;1,1,-1",hj,aH ⟨"0:a,0:a",h0⟩⟩⟩
  dsimp only;rw[if_pos c,if_neg ⟨"!a<0,0:a",h0⟩]
 ·split at h
  ·rename_i h0 h1;have hj:=(iY.mp h).1;exact⟨(i+xs.length).toNat,?_,h,Int.sub_nonneg.mp (by rw[Int.sub_neg];show h1),⟨"a<'A,!0:a",h0⟩,λz=>absurd z h0,λ_=>rfl⟩;have c:((0<=(if i<0 then i+(xs.length:Int) else i):Bool) && ((if i<0 then i+(xs.length:Int) else i)<(xs.length:Int):Bool))=true:=by
    rw[if_pos ⟨"a<0,!0:a",h0⟩];rw[bx];show⟨decide_eq_true h1,decide_eq_true ⟨"a+'A<'A,!0:a",h0⟩⟩
   dsimp only;rw[if_pos c,if_pos ⟨"a<0,!0:a",h0⟩]
  ·cases h
def aiR{ex:Expr}{o i:Value}(h:ns 26 ex=true):pM ex false o i=pU [o,i] (pV o i):=by
 induction ex using dC<;>first | rfl | show(aF h).elim
def amk{E:Value->Shared->Prop}{s0:Shared}{x:V}{value slice:Expr}(a:At J w bz nil Y0 s0 Y s)(hv:VR v x)(hu:VR u y)(h:Fb x y (λz=>Q z Y) Y)(hs:pM slice false v u=pU [v,u] (pV v u)) :
  ae (ag J w) A (subscriptTail value slice v u) (GE J w bz Y0 s0 Q) E s:=by
 revert hs;exact bV h hv λb h=>a8 h hu λi t h hs=>?_;rcases aoU h with⟨xs,e,h⟩ | ⟨xs,e,h⟩ | ⟨es,ep,e,h⟩<;>obtain⟨z,hx,hk⟩:=vR h
 ·have R:=a.2.1.rep _ _ e;obtain⟨vs,n,g,r⟩:=iC R;have le:=adm R;have L:s.heap.IsList b vs.toArray:=dZ g;obtain⟨j,h1,h2,h3,h4,h5,h6⟩:=TS hx;obtain⟨v',g1,g2⟩:=r.get h2;have q:GE J w bz Y0 s0 Q v' s:=⟨_,Y,g2,hk,a⟩;exact mD L.typeIs uA.lookup ?_ hs;by_cases h0:0<=i
  ·have e1:i.toNat=j:=(h5 h0).symm;show wpAny_getItem_list L h0 (oK h4 (bO (dP.mpr le) (by decide))) (by rw[e1];simpa using g1) q
  ·have e1:(i+(vs.toArray.size:Nat)).toNat=j:=by rw[aM,r.len];show(h6 h0).symm
   show wpAny_getItem_list_neg L ⟨"a<0,!0:a",h0⟩ (by rw[aM,r.len];show h3) (bO (bO (by decide) (yp (dP.mpr le))) h3) (by rw[e1];simpa using g1) q
 ·have R:=a.2.1.rep _ _ e;obtain⟨vs,g,r⟩:=uM R;have le:=TB R;obtain⟨j,h1,h2,h3,h4,h5,h6⟩:=TS hx;obtain⟨v',g1,g2⟩:=r.get h2;show mD g.typeIs PySem.F.slot_tuple_getitem.lookup (PyProof.Rows.getItem_tuple g (bO (bO (by decide) (yp (dP.mpr le))) h3) (oK h4 (bO (dP.mpr le) (by decide))) (by rw[aM,r.len];show h1) (by simpa using g1) ⟨_,Y,g2,hk,a⟩) hs
 ·obtain⟨ps,g,r⟩:=wL (a.2.1.rep _ _ e);obtain⟨v',g1,g2⟩:=r.at hx;have M:=g.mapOf;show mD M.typeIs PySem.F.slot_dict_getitem.lookup (wpAny_getItem_of (intKind_is J w i t) M g1 ⟨_,Y,g2,hk,a.toks⟩) hs
theorem aoa{a i:E}{ex:Expr}(h:aW sc (.idx a i) ex=true):∃v s pos,ex=.Subscript v s pos/\aW sc a v=true/\aW sc i s=true/\ns 26 s=true:=
 nh h λv s p h=>ie h λa b c=>⟨v,s,p,rfl,a,b,c⟩
def anR{a i:E}(ha:SE a)(hi:SE i):SE (.idx a i):=by
 intros;intro n c ex aA Q X hw;obtain⟨v,sl,pos,rfl,h1,h2,h3⟩:=aoa aA;show tv (ha.then c h1 hw λv x Y' s' hv hq c'=>hi.then c' h2 hq λu y iQ jv hu dH de=>amk de.at_ hv hu dH (aiR h3))
def SO(l:Option E):Prop:=match l with
 |none=>True
 |some e=>SE e
def SO.then{l:Option E}(he:SO l){F:dw}{f:Act}{s0:Shared}(c:Cn J w bz F W A f sc m Y0 s0 Y s n){ex:Option Expr}(aA:Fu sc l ex=true){X:Nat->So->Prop}(hw:wO W l m Q X Y){P:Value->Shared->Prop}
  (h:∀v x Y' s',VR v x->Q x Y'->Cn J w bz F W A f sc m Y0 s0 Y' s' n->P v s'):ae (ag J w) A (evalPart ex f.env) P (BE J w bz F f.fl Y0 s0 X) s:=by
 cases l with
 |none=>show kY aA (by rw[pH];show aq (h _ _ Y s .none hw c))
 |some e=>show ic aA λx aA=>by rw[pI];show SE.then he c aA hw h
theorem amU{a:E}{lo hi:Option E}{ex:Expr}(h:aW sc (.lu a lo hi) ex=true):∃v l u p pos,ex=.Subscript v (.Slice l u none p) pos/\aW sc a v=true/\Fu sc lo l=true/\Fu sc hi u=true:=
 nh h λv _ q h=>BG h λl u _ p h=>BK h λa b c d=>kY d ⟨v,l,u,p,q,rfl,a,b,c⟩
def anh{i:Int}(h:0<=i):(max 0 (min i (n:Int))).toNat=min i.toNat n:=by
 obtain⟨a,rfl⟩:=oI h;rcases sR a n with q | q
 ·rw[lU (dP.2 q),fP h];show(sP q).symm
 ·rw[ym (dP.2 q),fP (oJ n)];show(sM q).symm
def aps{α}{l:List α}(i j:Nat):(l.drop (min i l.length)).take (min j l.length-min i l.length)=(l.take j).drop i:=by
 rw[List.drop_take];rcases sR i l.length with q | q
 ·rw[sP q];rcases sR j l.length with p | p
  ·rw[sP p]
  ·rw[sM p,sg (by rw[mv];show cy _),sg (by rw[mv];show Nat.sub_le_sub_right p i)]
 ·rw[sM q,yv q,yv (cy _),yQ,yQ]
def TV{i:Int}(h:0<=i):mQ n i=min i.toNat n:=by
 unfold mQ;rw[if_neg ⟨"!a<0,0:a",h⟩];show anh h
def pick_run{i:Int}(hi:0<=i)(hj:0<=j):slicePick vs.toArray (some i) (some j) none=((vs.take j.toNat).drop i.toNat).toArray:=by
 rw[slicePick_plain];exact congrArg yS ?_;show(vs.drop (mQ vs.toArray.size i)).take (mQ vs.toArray.size j-mQ vs.toArray.size i)=_;rw[TV hi,TV hj,aM];show aps _ _
theorem TX(o o':Obj):Grows h ((h.push o).push o'):=λb ob e=>aZ _ (aZ _ e)
def I8{E:Value->Shared->Prop}{s0:Shared}{b:Nat}{zs:List V}{value slice:Expr}{vl vu vk:Value}{lo hi st:Option Int}(a:At J w bz nil Y0 s0 Y s)
  (g:s.heap.get? b=some (gh vs n)) (pl:IsPart vl lo) (pu:IsPart vu hi) (pk:IsPart vk st) (h0:st≠some 0) (hp:slicePick vs.toArray lo hi st=ws.toArray) (r:bD ws zs) (hlen:vs.length<100000) (hz:zs.length<=200000) (q:new (.lst zs) Q Y)
  (hs:∀o i,pM slice false o i=pU [i,o] (pV o i)\/pM slice false o i=pU [o,i] (pV o i)) :
  ae (ag J w) A (subscriptTail value slice (.ref b) (.ref s.heap.objs.size)) (GE J w bz Y0 s0 Q) E { s with heap:=s.heap.push { cls:=.type "slice",data:=.fields #[vl,vu,vk]}}:=by
 have g':(s.heap.push { cls:=.type "slice",data:=.fields #[vl,vu,vk]}).IsList b vs.toArray:=⟨_,aZ _ g,rfl,_,rfl⟩
 have sl:(s.heap.push { cls:=.type "slice",data:=.fields #[vl,vu,vk]}).IsSliceOf s.heap.objs.size vl vu vk:=⟨_,cJ _ rfl,rfl,rfl⟩
 have a':At J w bz nil Y0 s0 Y { s with heap:=s.heap.push { cls:=.type "slice",data:=.fields #[vl,vu,vk]}}:=a.grow (tk:=s.toks) λb ob e=>aZ _ e
 have fin:GE J w bz Y0 s0 Q (.ref (s.heap.push { cls:=.type "slice",data:=.fields #[vl,vu,vk]}).objs.size) { s with heap:=(s.heap.push { cls:=.type "slice",data:=.fields #[vl,vu,vk]}).push { cls:=.type "list",data:=.seq (slicePick vs.toArray lo hi st)}}:=by
  rw[hp];show GE.list (tk:=s.toks) a' r q 0 hz
 rcases hs (.ref b) (.ref s.heap.objs.size) with hs | hs
 ·show mD (s:={ s with heap:=s.heap.push { cls:=.type "slice",data:=.fields #[vl,vu,vk]}}) g'.typeIs uA.lookup (zi g' sl pl pu pk h0 fin (by rw[aM];show Aq hlen)) hs
 ·show mD (s:={ s with heap:=s.heap.push { cls:=.type "slice",data:=.fields #[vl,vu,vk]}}) g'.typeIs uA.lookup (zi g' sl pl pu pk h0 fin (by rw[aM];show Aq hlen)) hs
def aob{a:E}{lo hi:Option E}(ha:SE a)(wM:SO lo)(wN:SO hi):SE (.lu a lo hi):=by
 intros;intro n c ex aA Q X hw;obtain⟨v,l,u,p,pos,rfl,h1,h2,h3⟩:=amU aA;exact tv (ha.then c h1 hw λv x Y' s' hv hq c'=>ud (wM.then c' h2 hq λvl xl Y1 s1 DX lE c1=>wN.then c1 h3 lE λvu xu Y2 s2 TY iD c2=>?_));rw[pH];exact aq ?_;clear hq;exact bV iD hv λb iD=>?_;obtain⟨xs,e,iD⟩:=rJ iD;obtain⟨vs,k,g,r⟩:=iC (c2.at_.2.1.rep _ _ e);exact Ak iD DX (λiD=>a8 iD TY λj _ zz=>?_) λi _ iD=>Ak iD TY (λzz=>?_) λj _ zz=>?_
 ·obtain⟨z1,z2,z3⟩:=zz;obtain⟨j',rfl⟩:∃j':Nat,j=j':=⟨j.toNat,⟨"a='A,'A=a;1,-1;1,1",aH ⟨"0:a,0:a",z1⟩⟩⟩;show I8 c2.at_ g .none (.int _ _) .none (λe=>by cases e) (slicePick_upto' _ _) (r.take j') (by rw[r.len];show z2) (by rw[sE];have:xs.length<100000:=z2;show⟨"A.200000,B>100000,A.B",this,mx _ _⟩) z3 λo i=>.inl rfl
 ·obtain⟨z1,z2,z3⟩:=zz;obtain⟨j',rfl⟩:∃j':Nat,i=j':=⟨i.toNat,⟨"a='A,'A=a;1,-1;1,1",aH ⟨"0:a,0:a",z1⟩⟩⟩;show I8 c2.at_ g (.int _ _) .none .none (λe=>by cases e) (slicePick_from' _ _) (r.drop j') (by rw[r.len];show z2) (by rw[mv];have:xs.length<100000:=z2;show⟨"A.200000,B>100000,A.B",this,pj _ _⟩) z3 λo i=>.inl rfl
 ·obtain⟨z0,z1,z2,z3⟩:=zz;show I8 c2.at_ g (.int _ _) (.int _ _) .none (λe=>by cases e) (pick_run z0 z1) ((r.take _).drop _) (by rw[r.len];show z2) (by rw[mv,sE];have:xs.length<100000:=z2;show kE (pj _ _) (kE (mx _ _) ⟨"A.200000,A>100000",this⟩)) z3 λo i=>.inl rfl
theorem amD{a:E}{ex:Expr}(h:aW sc (.qJ a) ex=true):∃v k1 p1 p2 p pos,ex=.Subscript v (.Slice none none (some (.UnaryOp .USub (.Constant (.int 1) k1 p1) p2)) p) pos/\aW sc a v=true:=
 nh h λv _ q h=>BG h λ_ _ _ p h=>ic h λ_ h=>wF h λ_ _ p2 h=>jS h λ_ k p1 h=>BI h λj h=>BL h λa b c d e=>kY b (kY c (lC d (by rw[of_decide_eq_true e];show⟨v,k,p1,p2,p,q,rfl,a⟩)))
def amm{a:E}(ha:SE a):SE (.qJ a):=by
 intros;intro n c ex aA Q X hw;obtain⟨v,k1,p1,p2,p,pos,rfl,h1⟩:=amD aA;exact tv (ha.then c h1 hw λv x Y' s' hv hq c'=>ud ?_);rw[pH,pI];exact aq (aq (ua (tL (P.neg_int ?_))));exact bV hq hv λb hq=>?_;obtain⟨xs,e,hq⟩:=rJ hq;obtain⟨vs,k,g,r⟩:=iC (c'.at_.2.1.rep _ _ e);show I8 (s:={ s' with toks:=s'.toks+1+1}) c'.at_.toks g .none .none (.int _ _) (λe=>by cases e) (krv_pick _) r.rev (by rw[r.len];show hq.1) (by rw[List.length_reverse];have:xs.length<100000:=hq.1;show⟨"A.200000,A>100000",this⟩) hq.2 λo i=>.inr rfl
theorem rK.less{f:Act}(r:rK A f (n+1)):rK A f n:=⟨r.handled,r.frames,by have:=r.depth;show⟨"A+4*B+10.900,A+4*(B+1)+10.900",this⟩,by have:=r.units;show⟨"A+40*B+100.9000,A+40*(B+1)+100.9000",this⟩⟩
def noStar{env:aD}{pos:Pos}:∀{l:List E}{es:List Expr},d9 sc l es=true->(cA pos (bC es env)).any (·.1)=false:=by
 intro zl;induction zl with
 |nil=>
  intro _ h;show bq h rfl
 |cons zx _ ih=>
  intro _ h;show gH h λ_ _ a _ h=>by rw[Ai a];show ih h
def T1{f:Value}{env:aD}{pos:Pos}{es:List Expr}{Q:Args->Shared->Prop}(aA:d9 sc l es=true)
  (h:ae M A (gZ (cA pos (bC es env))) (λvs s'=>Q ⟨vs,[]⟩ s') EE s):ae M A (evalArgs f true (cA pos (bC es env)) []) Q EE s:=by
 unfold evalArgs;have z:=noStar (env:=env) (pos:=pos) aA;cases es with
 |nil=>
  exact ah (aI h (λvs s' h'=>?_) λ_ _ x=>x);exact bY ?_;show ah (aq (ah (aq (aq h'))))
 |cons e r=>
  have z':bC (e::r) env=(false,eval e env)::bC r env:=by
   cases l with
   |nil=>show(aF aA).elim
   |cons _ _=>show gH (P:=λes=>es=e::r->bC es env=(false,eval e env)::bC r env) aA (λ_ _ a _ _ q=>by rw[Ai a];injection q with q q';rw[q,q']) rfl
  rw[z'] at h ⊢;show mU h
theorem callArgs(hl:nH l){F:dw}{f:Act}{s0:Shared}(c:Cn J w bz F W A f sc m Y0 s0 Y s n){es:List Expr}{pos pos':Pos}{fv:Value}{first:List Value}(aA:d9 sc l es=true){Q:List V->So->Prop}{X:Nat->So->Prop}(hw:wEs W l m Q X Y){P:Value->Shared->Prop}{KP:Heap->Prop}
  (hk:∀h,KP h->∃k,(k=jj\/k=ji\/k=jh)/\jm (ag J w) h (jb fv) k)
  (h:∀vs xs Y' s',bD vs xs->Q xs Y'->Cn J w bz F W A f sc m Y0 s0 Y' s' n->At J w bz nil Y s Y' s'->KP s'.heap/\ae (ag J w) A (call fv (first++vs)) P (BE J w bz F f.fl Y0 s0 X) s') :
  ae (ag J w) A (callWith pos' fv first (cA pos (bC es f.env)) []) P (BE J w bz F f.fl Y0 s0 X) s:=
 kM (P:=KP) (by rw[noStar aA];rfl) hk (T1 aA (aI (hl c.here aA hw) (λv s' zz=>by obtain⟨x,Y',h1,h2,h3⟩:=zz;show h v x Y' s' h1 h2 (c.go h3) h3) λ_ _ z=>z.from c.at_))
theorem I9{r:FR}(h:fT[i]?=some r):r∈fT:=dp h
def L6{r:FR}(h:fT[i]?=some r):kX i=r.a:=by unfold kX;rw[h]
def L7(P:ak){r:FR}(h:r∈fT):isFn (KF P) (.ref r.a)=true/\keepIn (KF P) (.ref r.a)=true/\codeIn (KF P) (.ref r.cd) (ax r.ql)=true:=by
 have:=aY.mp (am3 P) r h;unfold S5 at this;rw[bx,bx] at this;show⟨this.1.1,this.1.2,this.2⟩
theorem Cn.K{F:dw}{f:Act}{s0:Shared}(c:Cn J w bz F W A f sc m Y0 s0 Y s n):(KF w.params).In s.heap:=c.cx.k.keeps c.stays
def L8{F:dw}{f:Act}{s0:Shared}(c:Cn J w bz F W A f sc m Y0 s0 Y s n){X:Nat->So->Prop}(hv:kZ bz Y s.heap vs xs)(hw:W.call i xs Q X Y) :
  ae (ag J w) A (call (.ref (kX i)) vs) (GE J w bz Y0 s0 Q) (BE J w bz F f.fl Y0 s0 X) s:=by
 obtain⟨r,hr⟩:=c.wo.BZ _ _ _ _ _ hw;rw[L6 hr];show mK (c.wo.call i r hr A f vs xs Q X Y0 s0 Y s c.rm.less c.lv.fH c.at_ hv hw)
theorem alL{g:Nat}{ex:Expr}(h:aW sc (.call g l) ex=true):∃x p es pos,ex=.Call (.Name x p) es [] pos/\qQ sc x (kX g)=true/\d9 sc l es=true:=
 fE h λ_ es _ q h=>dy h λx p h=>ie h λa b c=>bq c ⟨x,p,es,q,rfl,a,b⟩
theorem vT{x:Str}{p pos:Pos}{es:List Expr}{env:aD}:eval (.Call (.Name x p) es [] pos) env=(do callWith pos (<-eval (.Name x p) env) [] (cA pos (bC es env)) []):=rfl
def L9{g:Nat}{r:FR}(hr:fT[g]?=some r)(h:Heap)(X:(KF w.params).In h):∃k,(k=jj\/k=ji\/k=jh)/\jm (ag J w) h (jb (.ref (kX g))) k:=by
 rw[L6 hr];show keeps_K (L7 w.params (I9 hr)).2.1 h X
def aia{g:Nat}(h:fT[g]?=none):kX g=0:=by unfold kX;rw[h]
def alR:(nQ.all λe=>match e.2.2 with | .ref a=>!Nat.beq a 0 | _=>true)=true:=by decide +kernel
def alx{x:Str}{a:Nat}(h:rI x=some (.ref a)):a≠0:=by
 unfold rI at h;cases hf:nQ.find? λe=>ax e.1 == x with
 |none=>nomatch hf,h
 |some z=>
  rw[hf] at h;have h1:=aY.mp alR z (lV hf);have h2:z.2.2=.ref a:=bR h;rw[h2] at h1;intro e;subst e;simp at h1
def T3{x:Str}{g:Nat}(h:qQ sc x (kX g)=true):∃r,fT[g]?=some r:=by
 cases hr:fT[g]? with
 |some r=>show⟨r,rfl⟩
 |none=>
  have h':=(Tf h).2;rw[aia hr] at h';show absurd rfl (alx h')
def amq{g:Nat}(hl:nH l):SE (.call g l):=by
 intros;intro n c ex aA Q X hw;obtain⟨x,p,es,pos,rfl,h1,h2⟩:=alL aA;obtain⟨r,hr⟩:=T3 h1;rw[vT];exact ah (DT c.cx c.st c.stays h1 ?_);show callArgs (KP:=(KF w.params).In) hl c h2 hw (L9 hr) λvs xs Y' s' hv hq c' _=>⟨c'.K,L8 c' hv.vc hq⟩
theorem T4{a b:Nat}(h:dU a b=true):a<b:=dT h
theorem aly{a:E}{k:Nat}{ex:Expr}(h:aW sc (.bN a k l) ex=true):∃v ap es pos,ex=.Call (.Attribute v (nm k) ap) es [] pos/\aW sc a v=true/\d9 sc l es=true/\(vQ v && ap.endLine == pos.line)=true/\es.length<20:=
 fE h λ_ es _ q h=>jT h λv _ ap h=>BM h λa b c d e f=>jU b (bq d ⟨v,ap,es,q,rfl,a,c,e,T4 f⟩)
def aki{env:aD}{pos:Pos}{es:List Expr}(h:d9 sc l es=true)(hn:es.length<20):methodCallForm (es.length+([]:List Keyword).length) (cA pos (bC es env)) (backToKw pos (keywordEach [] env))=true:=by
 unfold methodCallForm;have h1:(cA pos (bC es env)).all (!·.1)=true:=by
  have:=noStar (env:=env) (pos:=pos) h;rw[List.all_eq_not_any_not]
  simpa using this
 rw[h1];show(true && true && decide (es.length+0+0<30))=true;simp;show⟨"A>30,A>20",hn⟩
def method_call{a:E}(ha:SE a){F:dw}{f:Act}{s0:Shared}(c:Cn J w bz F W A f sc m Y0 s0 Y s n){v:Expr}{x:Str}{ap pos:Pos}{es:List Expr}(h1:aW sc a v=true)(h2:d9 sc l es=true)(h3:(vQ v && ap.endLine == pos.line)=true)(h4:es.length<20)
  {X:Nat->So->Prop} (hw:wE W a m Q X Y) {P:Value->Shared->Prop}
  (h:∀o y Y' s',VR o y->Q y Y'->Cn J w bz F W A f sc m Y0 s0 Y' s' n->∀pl,ae (ag J w) A (getMethod o x pl) (λfx s2=>ae (ag J w) A (callWith pos fx.1 fx.2 (cA pos (bC es f.env)) []) P (BE J w bz F f.fl Y0 s0 X) s2) (BE J w bz F f.fl Y0 s0 X) s') :
  ae (ag J w) A (eval (.Call (.Attribute v x ap) es [] pos) f.env) P (BE J w bz F f.fl Y0 s0 X) s:=by
 rw[arm_eval_Call,Tw (dN.mp h3).1];exact ah (ha.then c h1 hw λo y Y' s' ho hq c'=>ah (fZ ?_));unfold methodCall;rw[aki h2 h4];have hp:methodCallPos true v f.env ap pos=pure pos:=by unfold methodCallPos;simp[(dN.mp h3).2]
 rw[hp];unfold calleeOf;exact ah (bY (aI (h o y Y' s' ho hq c' _) (λfx s2 z=>?_) λ_ _ z=>z));show ah (aq z)
def aiK(P:ak){c k f:Nat}(h:(c,k,f)∈mT):plainGet (KF P) (fC c) (nm k)=true/\kQ (KF P) (.ref (fC c)) (nm k)=some (some (.ref (kX f)))/\isFn (KF P) (.ref (kX f))=true:=by
 have:=aY.mp (akJ P) _ h;unfold S1 at this;simp only[bx] at this;show⟨this.1.1,beq_iff_eq.mp this.1.2,this.2⟩
def al9:(mT.all λp=>(fT[p.2.2]?).isSome)=true:=by decide +kernel
def ami{a:E}{k:Nat}(ha:SE a)(hl:nH l):SE (.bN a k l):=by
 intros;intro n c ex aA Q X hw;obtain⟨v,ap,es,pos,rfl,h1,h2,h3,h4⟩:=aly aA;exact method_call ha c h1 h2 h3 h4 hw λo y Y' s' ho hq c' pl=>?_;exact bV hq ho λb hq=>?_;obtain⟨cl,fs,e,hq⟩:=LC hq;obtain⟨fI,hq⟩:=aoL hq;obtain⟨fi,hmt,hq⟩:=vR hq;have hm:=c'.wo.mt _ _ _ hmt;obtain⟨f1,f2,f3⟩:=aiK w.params hm;obtain⟨d,T5,dn,sl,g1,g2,fl⟩:=(c'.at_.2.1.rep _ _ e).FJ;have gn:getL (nm k) T5=some none:=by
  rcases fl.get k with⟨_,_,_,q,_⟩ | ⟨q,_⟩
  ·nomatch fI,q
  ·show q
 obtain⟨r,hr⟩:=pn.mp (aY.mp al9 _ hm);exact method_fn c'.K (LW g1 g2) (uD f1).1 (uD f1).2 f2 (beq_iff_eq.mp f3) (by show(lookIn (nm k) (dictOf T5 dn)).map _=_;rw[lookIn_dict,gn];rfl) ?_;show callArgs (KP:=(KF w.params).In) hl c' h2 hq (L9 hr) λvs xs iQ jv hv dH de _=>⟨de.K,L8 de (.cons (VR.ref b).vc hv.vc) dH⟩
def ail(P:ak){c f:Nat}(h:(c,f)∈kT):makesIn (KF P) (fC c)=true/\kQ (KF P) (.ref (fC c)) "__init__"=some (some (.ref (kX f)))/\isFn (KF P) (.ref (kX f))=true/\keepIn (KF P) (.ref (fC c))=true:=by
 have:=aY.mp (akx P) _ h;unfold S4 at this;simp only[bx] at this;show⟨this.1.1.1,beq_iff_eq.mp this.1.1.2,this.1.2,this.2⟩
theorem anF{g:Nat}{ex:Expr}(h:aW sc (.new g l) ex=true):∃x p es pos,ex=.Call (.Name x p) es [] pos/\qQ sc x (fC g)=true/\d9 sc l es=true:=
 fE h λ_ es _ q h=>dy h λx p h=>ie h λa b c=>bq c ⟨x,p,es,q,rfl,a,b⟩
def rK.anS{f:Act}{args:List Value}{C:Nat}(r:rK A f (n+1)):rK (A.under (.builtin "type.__call__" ⟨.ref C::args,[]⟩)) f n:=by
 exact⟨r.handled,?_,?_,?_⟩
 ·show pushEnvs [] A.frames=_;show r.frames
 ·show A.depth+_+4 * n+10<=900;have:(pW "type.__call__" ⟨.ref C::args,[]⟩).weight<=2:=by show _+1+0+0<=2;show dT rfl
  show⟨"A+B+4*C+10.900,B.2,A+4*(C+1)+10.900",this,r.depth⟩
 ·show A.units+_+40 * n+100<=9000;have:(pW "type.__call__" ⟨.ref C::args,[]⟩).cUnits<=10:=by show 1+3 * _<=10;show dT rfl
  show⟨"A+B+40*C+100.9000,B.10,A+40*(C+1)+100.9000",this,r.units⟩
def aoT:(kT.all λp=>(fT[p.2]?).isSome)=true:=by decide +kernel
theorem kZ.ao0{x:V}(a:VR v x)(b:bD vs xs):kZ bz Y h (v::vs) (x::xs):=.cons a.vc b.vc
def aok{g:Nat}(hl:nH l):SE (.new g l):=by
 intros;intro n c ex aA Q X hw;obtain⟨x,p,es,pos,rfl,h1,h2⟩:=anF aA;obtain⟨fi,hc,cG⟩:=vR hw;have hm:=c.wo.ctor _ _ hc;obtain⟨f1,f2,f3,f4⟩:=ail w.params hm;obtain⟨r,hr⟩:=pn.mp (aY.mp aoT _ hm);rw[vT];exact ah (DT c.cx c.st c.stays h1 ?_);exact callArgs (KP:=(KF w.params).In) hl c h2 cG (λh X=>keeps_K f4 h X) λvs xs Y' s' hv hq c' _=>⟨c'.K,mK ?_⟩;obtain⟨hh,gg,dd,tt,oo⟩:=s';exact make_core (makes_of c'.K f1) (looks_findIn c'.K f2) (λself=>bind_fn c'.K self (beq_iff_eq.mp f3)) (.inl rfl) ?_;have hn:hh.get? (hh.objs.size+1)=none:=gf (i6 _);have a':=c'.at_.SX (c:=g) (a:=hh.objs.size+1) (d:=hh.objs.size) (fs:=[]) (tk:=tt) (sl:=#[]) (es:=[]) (n:=0) hn (nY hh) (y8 _) (TX kN (kP (fC g) hh.objs.size))
  (by have:=cJ (hh.push kN) (o:=kP (fC g) hh.objs.size) rfl;rwa [mX] at this)
  (aZ _ (cJ _ rfl)) .nil
 have hs:Y' (hh.objs.size+1)=none:=c'.at_.2.1.unset hn;rw[L6 hr];have FN:=c'.wo.call fi r hr (A.under (.builtin "type.__call__" ⟨.ref (fC g)::vs,[]⟩)) f (.ref (hh.objs.size+1)::vs) (.ref (hh.objs.size+1)::xs) _ bW Y0 s0 _ ⟨(hh.push kN).push (kP (fC g) hh.objs.size),gg,dd,tt,oo⟩ c'.rm.anS
  (c'.lv.fH.step (h':=(hh.push kN).push (kP (fC g) hh.objs.size)) ?_) a' (.ao0 (.ref _) hv) (hq _ hs)
 ·exact uc FN λr s' z=>?_;rcases r with e | (v | _ | _ | _)
  ·show z.no
  ·show z.elim
  ·show z.elim
  ·show z.elim
  ·obtain⟨y,iQ,q1,⟨rfl,q2⟩,q3⟩:=z;cases q1;show⟨rfl,_,iQ,.ref _,q2,q3⟩
 ·have ar:At J w bz nil Y' ⟨hh,gg,dd,tt,oo⟩ Y' ⟨hh,gg,dd,tt,oo⟩:=.refl c'.at_.2.1;show(ar.SX (c:=g) (a:=hh.objs.size+1) (d:=hh.objs.size) (fs:=[]) (tk:=tt) (sl:=#[]) (es:=[]) (n:=0) hn (nY hh) (y8 _) (TX kN (kP (fC g) hh.objs.size))
   (by have:=cJ (hh.push kN) (o:=kP (fC g) hh.objs.size) rfl;rwa [mX] at this)
   (aZ _ (cJ _ rfl)) .nil).2.2
theorem akn{x:Nat}{ex:Expr}(h:aW sc (.kh x l) ex=true):∃p es pos,ex=.Call (.Name (nm x) p) es [] pos/\d9 sc l es=true/\jR sc x (nm x)=true:=
 fE h λ_ es _ q h=>dy h λ_ p h=>ie h λa b c=>bq c (jr a λa=>⟨p,es,q,rfl,b,a⟩)
def FnAt(fa:Nat)(h:Heap):Prop:=∃(q:Str) (ar:gb) (bo:Expr) (inner:Scope) (cl:List (Str×bU)) (pm:Value) (c':Nat) (iP:Value),h.get? fa=some (m8 "<lambda>" q ar bo inner cl pm c' iP)
def FnAt.keep(h:Heap)(x:FnAt fa h):∃k,(k=jj\/k=ji\/k=jh)/\jm (ag J w) h (jb (.ref fa)) k:=by
 obtain⟨q,ar,bo,inner,cl,pm,c',iP,e⟩:=x;show⟨.frame,.inl rfl,(Looks.ld (part:=none) e).andThen .now⟩
def nj.fn{p:List Nat}(x:nj bz Y h fa p b cs):FnAt fa h:=by
 obtain⟨ar,bo,inner,c',iP,cl,q,pm,sc,cps,e1,_⟩:=x;show⟨q,ar,bo,inner,cl,pm,c',iP,e1⟩
def ajw{x:Nat}(hl:nH l):SE (.kh x l):=by
 intros;intro n c ex aA Q X hw;obtain⟨p,es,pos,rfl,h2,h0⟩:=akn aA;obtain⟨aw,b,aG,e,cG⟩:=aoX hw;obtain⟨fa,h3,h4⟩:=c.lv.loc x _ (Tb c.st h0) e;rw[vT];exact ah (h3.eval c.st ?_);exact callArgs (KP:=FnAt fa) hl c h2 cG (λh X=>FnAt.keep h X) λvs xs Y' s' hv hq c' a=>?_;have T6:=h4.step a.2.2;exact⟨T6.fn,mK (uc (c'.wo.nS A f fa aw b aG vs xs Q Y0 s0 Y' s' c'.rm.less c'.lv.fH c'.at_ T6 hv hq) λr jv z=>?_)⟩;rcases r with e | (v | _ | _ | _)<;>first | show z.elim | show z
def mem_lookup{l:List (Str×du)}{x:Str}{k:du}(h:l.lookup x=some k):(x,k)∈l:=by
 induction l with
 |nil=>cases h
 |cons p r ih=>
  obtain⟨y,j⟩:=p
  rewrite [bA] at h
  split at h
  ·rename_i e;cases h;rw[beq_iff_eq.mp e];show .head _
  ·show .tail _ (ih h)
def wQ(env:aD):List (Str×du)->List (Str×bU)->List (Str×bU)
 | [],cs=>cs
 |(x,k)::r,cs=>if k == .free then wQ env r ((x,(env.cells.lookup x).getD 0)::cs) else wQ env r cs
def al5(env:aD):∀(l:List (Str×du)) (cs:List (Str×bU)),(∀p∈l,p.2=.free->∃c,env.cells.lookup p.1=some c) ->
  (forIn l cs (λ(p:Str×du) (r:List (Str×bU))=>(match p with
   |(name,kind)=>if (kind == .free)=true then do let c <-cellOf env name;pure (gQ ((name,c)::r)) else pure (gQ r):Sem (ForInStep (List (Str×bU))))))=pure (wQ env l cs):=by
 intro zl;induction zl with
 |nil=>
  intro cs _;show rfl
 |cons zx r ih=>
  obtain⟨x,k⟩:=zx;intro cs h;rw[o6];dsimp only;dsimp only[wQ];by_cases hk:(k == .free)=true
  ·rw[if_pos hk,if_pos hk];obtain⟨c,hc⟩:=h (x,k) (.head _) (beq_iff_eq.mp hk);have:cellOf env x=pure c:=by unfold cellOf;rw[hc]
   rw[this,hc];show(forIn r ((x,c)::cs) _:Sem _)=_;show ih _ λp hp=>h p (.tail _ hp)
  ·rw[if_neg hk,if_neg hk];show ih _ λp hp=>h p (.tail _ hp)
def ahT(env:aD){x:Str}:∀(l:List (Str×du)) (cs:List (Str×bU)),((x,.free)∈l\/∃c,cs.lookup x=some c)->(∀c,cs.lookup x=some c->env.cells.lookup x=some c)->(∃c,env.cells.lookup x=some c)->(wQ env l cs).lookup x=env.cells.lookup x:=by
 intro zl;induction zl with
 |nil=>
  intro cs h k e;rcases h with h | ⟨c,h⟩
  ·cases h
  ·show cs.lookup x=_;rw[h,k c h]
 |cons zx r ih=>
  obtain⟨y,j⟩:=zx;intro cs h k e;dsimp only[wQ];by_cases hj:(j == .free)=true
  ·rw[if_pos hj];by_cases DV:x=y
   ·subst DV;obtain⟨c,hc⟩:=e;exact ih _ (.inr ⟨c,?_⟩) (λc' rL=>?_) ⟨c,hc⟩
    ·rw[bA];simp[hc]
    ·rewrite [bA] at rL;simp[hc] at rL;rw[hc,rL]
   ·have aU:(x == y)=false:=by simpa using DV
    exact ih _ ?_ (λc' rL=>?_) e
    ·rcases h with h | ⟨c,h⟩
     ·rcases az.mp h with h | h
      ·cases h;show absurd rfl DV
      ·show .inl h
     ·show .inr ⟨c,by rw[bA,aU];show h⟩
    ·rewrite [bA,aU] at rL;show k c' rL
  ·rw[if_neg hj];exact ih _ ?_ k e;rcases h with h | h
   ·rcases az.mp h with h | h
    ·cases h;show absurd rfl hj
    ·show .inl h
   ·show .inr h
def agQ(env:aD):∀(l:List (Str×du)) (cs:List (Str×bU)),(∀p∈l,p.2=.free->∃c,env.cells.lookup p.1=some c)->∀(U:Str->Prop),(∀x c,cs.lookup x=some c->U x/\env.cells.lookup x=some c)->∀x c,(wQ env l cs).lookup x=some c->(U x\/(x,mZ)∈l)/\env.cells.lookup x=some c:=by
 intro zl;induction zl with
 |nil=>
  intro cs _ U h x c e;show⟨.inl (h x c e).1,(h x c e).2⟩
 |cons zx r ih=>
  obtain⟨y,j⟩:=zx;intro cs h1 U h x c e;dsimp only[wQ] at e;by_cases hj:(j == .free)=true
  ·rewrite [if_pos hj] at e
   have key:∀z d,kz z ((y,(env.cells.lookup y).getD 0)::cs)=some d->(U z\/z=y)/\env.cells.lookup z=some d:=λz d hz=>by
    rewrite [bA] at hz
    split at hz
    ·rename_i q;obtain⟨c',rL⟩:=h1 (y,j) (.head _) (beq_iff_eq.mp hj);rw[beq_iff_eq.mp q];rw[rL] at hz ⊢;show⟨.inr rfl,hz⟩
    ·show⟨.inl (h z d hz).1,(h z d hz).2⟩
   obtain⟨a,b⟩:=ih _ (λp hp=>h1 p (.tail _ hp)) (λz=>U z\/z=y) key x c e;exact⟨?_,b⟩;clear e h1 key;rcases a with(a | rfl) | a
   ·show .inl a
   ·rw[beq_iff_eq.mp hj];show .inr (.head _)
   ·show .inr (.tail _ a)
  ·rewrite [if_neg hj] at e
   obtain⟨a,b⟩:=ih cs (λp hp=>h1 p (.tail _ hp)) U h x c e;show⟨a.imp id (.tail _),b⟩
def T7{scope:Scope}{env:aD}(h:∀p∈scope.names,p.2=.free->∃c,env.cells.lookup p.1=some c):∃cl,closureFor scope env=pure cl/\(∀x,(x,.free)∈scope.names->cl.lookup x=env.cells.lookup x)/\∀x c,cl.lookup x=some c->(x,mZ)∈scope.names/\env.cells.lookup x=some c:=by
 exact⟨wQ env scope.names [],?_,λx hx=>ahT env _ _ (.inl hx) (λc hc=>by cases hc) (h _ hx rfl),λx c e=>?_⟩
 ·show(congrArg (λt:Sem (List (Str×bU))=>t >>= λs=>pure s) (al5 env scope.names [] h)).trans rfl
 ·obtain⟨a,b⟩:=agQ env scope.names [] h (λ_=>False) (λx c e=>by cases e) x c e;show⟨a.elim fO id,b⟩
def aht{pos:Pos}{a b:Int}{c:Value}(l:List Value)(h:pO l)(e:kH pos (l++[bZ a,bZ b,c])=some v):kH pos l=some v\/v=c:=by
 fun_induction pO l with
 |case1=>
  simp only[o7,bZ,kH] at e;split at e
  ·cases e;show .inr rfl
  ·cases e
 |case2 a' t b' u x rest ih=>
  simp only[fU,kH] at e ⊢;split at e
  ·rename_i hc;rw[if_pos hc];show .inl e
  ·rename_i hc;rw[if_neg hc];show ih h e
 |case3 l h1 h2=>show h.elim
def T8{l:List Value}{q:Str}{t:Tok}(h:pO l)(e:l[1]?=some (.str q t)):False:=by
 cases l with
 |nil=>cases e
 |cons x l=>cases l with
  |nil=>cases e
  |cons y l=>
   cases e
   induction x using Af<;>show h
def ajG:tP.Nodup:=by decide +kernel
def aj6{t t':Nat×Nat×String}(h:t∈tabs)(h':t'∈tabs)(e:t.2.1=t'.2.1):t=t':=by
 have z:∀(l:List FR) (p:List Nat),p.Nodup->∀q q':FR×Nat,q∈l.zip p->q'∈l.zip p->q.2=q'.2->q=q':=by
  intro l;induction l with
  |nil=>intro p _ q q' hq;cases hq
  |cons a r ih=>
   intro p hp q q' hq dH he;cases p with
   |nil=>cases hq
   |cons b p=>
    rewrite [aX] at hp
    rw[dQ] at hq dH;rcases az.mp hq with rfl | hq<;>rcases az.mp dH with rfl | dH
    ·rfl
    ·show absurd (ky dH).2 (by dsimp only at he;rw[<-he];show hp.1)
    ·show absurd (ky hq).2 (by dsimp only at he;rw[he];show hp.1)
    ·show ih p hp.2 q q' hq dH he
 unfold tabs at h h';obtain⟨q,hq,rfl⟩:=aQ.mp h;obtain⟨q',dH,rfl⟩:=aQ.mp h';rw[z fT tP ajG q q' hq dH e]
def aml{r:FR}(h:r∈fT):∃p,(r.cd,p,r.ql)∈tabs:=by
 have hl:fT.length=tP.length:=by decide +kernel
 obtain⟨i,hi,e⟩:=gT h;have hz:i<(fT.zip tP).length:=by rw[iZ,<-hl,Nat.min_self];show hi
 exact⟨tP[i],?_⟩;unfold tabs;exact aQ.mpr ⟨(fT.zip tP)[i],gU hz,?_⟩;rw[oX,e];rfl
def DY(I:Inv J w bz Y h)(k:∀b o,h.get? b=some o->∃o',h'.get? b=some o'/\(∀c fs,Y b=some (.inst c fs)->o'=o)){c:Nat}(hn:h.get? c=none):¬ bu Y h' c:=by
 rintro(⟨o,e,_⟩ | ⟨a,cc,fs,ox,e,hx,hd⟩ | ⟨t,ht,rfl⟩)
 ·nomatch I.unset hn,e
 ·obtain⟨ob,e'⟩:=(I.rep a _ e).here;obtain⟨o',e1,e2⟩:=k _ _ e'
  nomatch hx,e1
  rewrite [e2 _ _ e] at hd
  obtain⟨od,z⟩:=I.dat ⟨cc,fs,ob,e,e',hd⟩
  nomatch hn,z
 ·obtain⟨ps,e,_⟩:=I.tab t ht
  nomatch hn,e
def At.table{s0:Shared}{t:Nat×Nat×String}{ps:Array Value}{a b:Int}{c':Nat}(x:At J w bz own Y0 s0 Y s)(ht:t∈tabs)(hP:s.heap.get? t.2.1=some (hZ ps))(k:dY t.2.1 s.heap h')
  (T9:h'.get? t.2.1=some (hZ (ps++#[bZ a,bZ b,.ref c']))) (hc:h'.CodeRec (.ref c') (FD t.2.2)):At J w bz own Y0 s0 Y { s with heap:=h',toks:=tk}:=by
 obtain⟨⟨hh,t0,e⟩,I,S⟩:=x;have uN:FE t.2.1:=⟨t,ht,rfl⟩;have da:∀b d,dh Y h' b d↔dh Y s.heap b d:=by
  intro b d;constructor
  ·rintro⟨c,fs,ox,e,hx,hd⟩;obtain⟨ob,e'⟩:=(I.rep b _ e).here;have:=k b ob (λq=>I.FG e (q ▸ uN)) e'
   nomatch hx,this
   show⟨c,fs,ox,e,e',hd⟩
  ·rintro⟨c,fs,ox,e,hx,hd⟩;show⟨c,fs,ox,e,k b ox (λq=>I.FG e (q ▸ uN)) hx,hd⟩
 have mu:∀b,bu Y h' b↔bu Y s.heap b:=λb=>by unfold bu;simp only[da]
 have mP:bu Y s.heap t.2.1:=.inr (.inr uN);exact⟨⟨h',tk,by rw[e]⟩,⟨λb ob e=>k b ob (λq=>I.old b ob e (q ▸ mP)) (I.stays b ob e),λb q e=>?_,λb ob e m=>I.old b ob e ((mu b).mp m),λb d y=>I.sep b d ((da _ _).mp y),λb c d y z=>I.inj b c d ((da _ _).mp y) ((da _ _).mp z),λt' B3=>?_⟩,S.trans ⟨λb o e=>(lS (b=t.2.1)).elim (λq=>q ▸ ⟨_,T9⟩) λq=>⟨o,k b o q e⟩,λb ob e n=>?_,λb ob e n=>n⟩⟩
 ·exact(I.rep b q e).keeps (λob z=>k b ob (λq=>I.FG e (q ▸ uN)) z) λob d od z zd zo hq=>?_;obtain⟨c,fs,rfl⟩:=hq;show k d od (λq=>I.SR ⟨c,fs,ob,e,z,zd⟩ (q ▸ uN)) zo
 ·have Ua:∀b o,s.heap.get? b=some o->Aj o->b≠t.2.1:=λb o e r q=>by
   subst q
   nomatch hP,e
   obtain⟨vs,q,tt,hd,hv⟩:=r;cases hd;obtain⟨DZ,e1,e2,_⟩:=I.tab t ht
   nomatch hP,e1
   show T8 e2 (by rw[yc];show hv)
  by_cases hq:t'.2.1=t.2.1
  ·obtain rfl:=aj6 B3 ht hq;obtain⟨DZ,e1,e2,e3⟩:=I.tab t' B3
   nomatch hP,e1
   exact⟨_,T9,?_,λpos cv Ub=>?_⟩
   ·rw[yd];show TriplesOk_snoc _ _ _ _ e2
   ·rewrite [yd] at Ub
    rcases aht _ e2 Ub with z | rfl
    ·obtain⟨c,o,vs,tt,e4,e5,e6,e7⟩:=e3 pos cv z;show⟨c,o,vs,tt,e4,k c o (Ua c o e5 ⟨vs,_,tt,e6,e7⟩) e5,e6,e7⟩
    ·show hc
  ·exact tab_keep (I.tab t' B3) ?_ λb o e r=>k b o (Ua b o e r) e;obtain⟨DZ,e1,_⟩:=I.tab t' B3;rw[e1];show k _ _ hq e1
 ·show⟨ob,k b ob (λq=>n (q ▸ mP)) e,λm=>n ((mu b).mp m),.inr (.inl rfl)⟩
def alY:∀{aG:List Nat}{cs:List (Nat×V)},Fe m aG=some cs->cs.map (·.1)=aG/\(∀x v,lk cs x=some v->lk m x=some v/\∀p b c,v≠.dz p b c)/\∀k∈aG,∃v,lk m k=some v/\lk cs k=some v:=by
 intro zl;induction zl with
 |nil=>
  intro cs h;cases h;show⟨rfl,(λx v e=>by cases e),λk hk=>by cases hk⟩
 |cons x r ih=>
  intro cs h;dsimp only[Fe] at h;split at h
  ·cases h
  ·rename_i v hn hv;obtain⟨c,hc,rfl⟩:=mC.mp h;obtain⟨h1,h2,h3⟩:=ih hc;exact⟨by rw[bQ,h1],λy u e=>?_,λk hk=>?_⟩
   ·have e':(match ai x y with | true=>some v | false=>lk c y)=some u:=e
    split at e'
    ·rename_i q;cases e';rw[<-bL q];show⟨hv,λp b c' z=>hn p b c' z⟩
    ·show h2 y u e'
   ·have goal:∀y,(lk ((x,v)::c) y)=(match ai x y with | true=>some v | false=>lk c y):=λ_=>rfl
    cases q:ai x k with
    |true=>
     have e:=bL q;subst e;show⟨v,hv,by rw[goal,q]⟩
    |false=>
     rcases az.mp hk with rfl | hk
     ·simp at q
     ·obtain⟨u,u1,u2⟩:=h3 k hk;show⟨u,u1,by rw[goal,q];show u2⟩
  ·cases h
structure Ja(sc:Scope)(aw aG:List Nat)(ar:gb)(inner:Scope):Prop where
 plain:DI ar=true
 ki:ar.defaults=[]
 rM:DH aw ar.args=true
 Ma:Fs inner=true
 n9:∀x∈inner.names,(x.2=.local/\∃k∈aw,nm k=x.1)\/(x.2=.free/\(∃k∈aG,nm k=x.1)/\sc.names.lookup x.1=some .cell/\(x.1 == ("__classdict__":Str))=false)\/x.2=.globalImplicit
 cps:∀k∈aG,inner.names.lookup (nm k)=some .free
 pl:∀k∈aw,inner.names.lookup (nm k)=some .local
 ne:aG≠[]
def Uc{aw aG:List Nat}{inner:Scope}(h:Ft sc aw aG ar inner=true):Ja sc aw aG ar inner:=by
 exact BK h λh h5 h6 h7=>BL h λh0 h1 h2 h3 h4=>⟨h1,oY.mp h2,h3,h4,λx hx=>?_,λk hk=>?_,λk hk=>Ir (aY.mp h7 k hk),λq=>by nomatch q,h0⟩
 ·rcases wC (aY.mp h5 x hx) with⟨e,z⟩ | ⟨_,z⟩ | ⟨e,z⟩ | ⟨e,_⟩
  ·obtain⟨k,hk,e'⟩:=mr.mp z;show .inl ⟨bR e,k,hk,beq_iff_eq.mp e'⟩
  ·cases z
  ·exact ie z λz1 z2 z3=>?_;obtain⟨k,hk,e'⟩:=mr.mp z1;exact .inr (.inl ⟨bR e,⟨k,hk,beq_iff_eq.mp e'⟩,?_,by simpa using z3⟩);rcases wC z2 with⟨_,h⟩ | h | ⟨_,h⟩ | ⟨_,h⟩
   ·cases h
   ·show h.1
   ·cases h
   ·cases h
  ·show .inr (.inr (bR e))
 ·rcases wC (aY.mp h6 k hk) with⟨_,h⟩ | ⟨_,h⟩ | h | ⟨_,h⟩
  ·cases h
  ·cases h
  ·show h.1
  ·cases h
def iO.cell{env:aD}{x:Str}(e:env.kindOf x=some .cell)(H:iO h env x v):∃c,env.cells.lookup x=some c/\h.IsCell c (some v):=by
 rcases H with⟨e',_⟩ | ⟨_,r⟩
 ·nomatch e,e'
 ·show r
def ahr{env:aD}(h:DI ar=true)(hd:ar.defaults=[]):defaultsOf ar env=([],[]):=by
 unfold DI at h;simp only[bx] at h;obtain⟨a,b,c,d,kd,f,g⟩:=ar;dsimp only at hd;subst hd;have:kd=[]:=oY.mp h.1.2;subst this;rfl
def akl{c P:Nat}{v:Option Value}{ps:Array Value}(k:dY P h h')(hP:h.get? P=some (hZ ps))(x:h.IsCell c v):h'.IsCell c v:=by
 obtain⟨o,e,hd⟩:=x;show⟨o,k c o (λq=>by subst q;nomatch hP,e;cases hd) e,hd⟩
def Ja.free{aw aG:List Nat}{inner:Scope}(LF:Ja sc aw aG ar inner){x:Str}(hx:(x,mZ)∈inner.names):(∃k∈aG,nm k=x)/\sc.names.lookup x=some .cell:=by
 rcases LF.n9 _ hx with⟨e,_⟩ | ⟨_,a,b,_⟩ | e
 ·cases e
 ·show⟨a,b⟩
 ·cases e
def Ud{cs:Env}{k:Nat}{v:V}(h:lk cs k=some v):k∈cs.map (·.1):=by
 induction cs with
 |nil=>cases h
 |cons p r ih=>
  obtain⟨j,u⟩:=p;have h':(match ai j k with | true=>some u | false=>lk r k)=some v:=h
  split at h'
  ·rename_i q;rw[<-bL q];show .head _
  ·show .tail _ (ih h')
def alp{F:dw}{f:Act}{s0:Shared}(c:Cn J w bz F W A f sc m Y0 s0 Y s n){aw aG:List Nat}{inner:Scope}(LF:Ja sc aw aG ar inner){k:Nat}{v:V}(hk:k∈aG)(hv:lk m k=some v)(nc:∀p b c,v≠.dz p b c):∃cc rv,f.env.cells.lookup (nm k)=some cc/\s.heap.IsCell cc (some rv)/\VR rv v:=by
 have kn:f.env.kindOf (nm k)=some .cell:=by unfold cY;rw[c.st.se];show(LF.free (mem_lookup (LF.cps k hk))).2
 have L:=c.lv.loc k v (by unfold BW;rw[kn];rfl) hv;clear hv;cases v with
 |dz p b' cs'=>show absurd rfl (nc p b' cs')
 |_=>
  obtain⟨rv,h1,h2⟩:=L;obtain⟨cc,h3,h4⟩:=h1.cell kn;show⟨cc,rv,h3,h4,h2⟩
def ah4{c':Nat}{o':Obj}{vs:Array Value}{t:Tok}{q:Str}(I:Inv J w bz Y h)(e5:h.get? c'=some o')(e6:o'.data=.fields vs)(e7:vs[1]?=some (.str q t)):¬ bu Y h c':=by
 rintro(⟨q,z,zm⟩ | ⟨a,z⟩ | ⟨t',z1,z2⟩)
 ·show(I.rep _ _ z).SV e5 ⟨vs,_,t,e6,e7⟩
 ·obtain⟨es,n',z'⟩:=I.IK z
  nomatch z',e5;cases e6
 ·obtain⟨DZ,y1,y2,_⟩:=I.tab t' z1
  rewrite [<-z2,e5] at y1;cases y1
  cases e6.symm
  show T8 y2 (by rw[yc];show e7)
def anA{F:dw}{f:Act}{s0:Shared}(c:Cn J w bz F W A f sc m Y0 s0 Y s n){bo:Expr}{inner:Scope}{pos:Pos}{aw aG:List Nat}
  (hl:Ft sc aw aG ar inner=true) (hb:aW inner b bo=true) (hc:Fe m aG=some cs) {P:Value->Shared->Prop} (h:∀fa s',nj bz Y s'.heap fa aw b cs->Cn J w bz F W A f sc m Y0 s0 Y s' n->P (.ref fa) s') :
  ae (ag J w) A (eval (.Lambda ar bo inner pos) f.env) P EE s:=by
 have LF:=Uc hl;obtain⟨r,hr,Au,FP⟩:∃r∈fT,f.env.code=.ref r.cd/\f.env.qual=ax r.ql++".<locals>.":=c.st.S9.elim (λq=>by
  obtain⟨k,rest,e⟩:=oM LF.ne;show absurd (LF.free (mem_lookup (LF.cps k (e ▸ .head _)))).2 (q _)) id
 obtain⟨Pt,ht⟩:=aml hr;have I:=c.at_.2.1;obtain⟨ps,hP,hT,hA⟩:=I.tab _ ht;dsimp only at hP hA;obtain⟨c1,c2,c3⟩:=alY hc;have cellAt:∀k∈aG,∃v cc rv,lk cs k=some v/\f.env.cells.lookup (nm k)=some cc/\s.heap.IsCell cc (some rv)/\VR rv v:=λk hk=>by
  obtain⟨v,hv,Av⟩:=c3 k hk;obtain⟨cc,rv,a,b,d⟩:=alp c LF hk hv (c2 k _ Av).2;show⟨v,cc,rv,Av,a,b,d⟩
 obtain⟨cl,iR,wR,oa⟩:=T7 (scope:=inner) (env:=f.env) λp hp he=>by
  obtain⟨k,hk,e⟩:=(LF.free (x:=p.1) (by rw[<-he];show hp)).1;obtain⟨v,cc,rv,_,h3,_⟩:=cellAt k hk;show⟨cc,by rw[<-e];show h3⟩
 obtain⟨mg,G,bm,ob,b1,b2,b3,b4,b5,b6⟩:=c.cx.gl;have Gs:=G.keeps c.stays;have Jb:=c.stays _ _ b3;have hgP:mainGlobals≠Pt:=λq=>by
  obtain⟨o,es,ep,e,hd,_⟩:=Gs
  nomatch q,hP,e;cases hd
 have hbP:bm≠Pt:=λq=>by nomatch q,hP,Jb;cases b6
 have hbG:bm≠mainGlobals:=λq=>by
  obtain⟨o,es,ep,e,hd,_⟩:=G
  nomatch q,e,b3;nomatch hd,b6
 have CH:CodeHd s.heap r.cd Pt:=(c.cx.head _ ht).keeps c.stays;have BA:s.heap.BuiltinsAt mg Pt:=⟨bm,ob,b1,b2,hbG,hbP,Jb,b4,b5,b6⟩;have hq:f.env.qual++"<lambda>"=FD r.ql:=by unfold FD;rw[FP]
 have fin:∀(h':Heap) (c':Nat) (iP:Value) (pm:Value) (tk:Nat),(∀cc v,s.heap.IsCell cc v->h'.IsCell cc v)->h'.CodeRec (.ref c') (FD r.ql)->¬ bu Y h' c'->At J w bz nil Y s Y { s with heap:=h',toks:=tk} ->
   P (.ref h'.objs.size) { s with heap:=h'.push (m8 "<lambda>" (f.env.qual++"<lambda>") ar bo inner cl pm c' iP),toks:=tk}:=λh' c' iP pm tk kc uO hcm a=>by
  have a2:At J w bz nil Y s Y { s with heap:=h'.push (m8 "<lambda>" (f.env.qual++"<lambda>") ar bo inner cl pm c' iP),toks:=tk}:=a.grow (tk:=tk) λb o e=>aZ _ e
  have I1:Inv J w bz Y h':=a.2.1;have kp:∀b o,h'.get? b=some o->(h'.push (m8 "<lambda>" (f.env.qual++"<lambda>") ar bo inner cl pm c' iP)).get? b=some o:=λb o e=>aZ _ e;exact h _ _ ⟨ar,bo,inner,c',iP,cl,f.env.qual++"<lambda>",pm,sc,aG,cJ _ rfl,?_,?_,λm=>hcm ((bu.grow I1 kp).mp m),hl,hb,⟨c1.symm,λx cc hx=>?_,λx y cc hx hy=>c.st.inj x y cc (oa x cc hx).2 (oa y cc hy).2⟩,λx v hx=>?_⟩ (c.go a2)
  ·show DY I1 (λb o e=>⟨o,kp b o e,λ_ _ _=>rfl⟩) (nY h')
  ·show Heap.CodeRec.keeps (q:=f.env.qual++"<lambda>") (hq.symm ▸ uO) kp
  ·obtain⟨k,hk,e⟩:=(LF.free (oa x cc hx).1).1;obtain⟨v,_,_,z1,_⟩:=cellAt k hk;show⟨k,v,e.symm,z1⟩
  ·have Ue:x∈aG:=c1 ▸ Ud hx;obtain⟨v',cc,rv,z1,z2,z3,z4⟩:=cellAt x Ue
   nomatch hx,z1
   obtain⟨_,FQ,nb⟩:=c.lv.jV _ _ z2;exact⟨cc,rv,(wR _ (mem_lookup (LF.cps x Ue))).trans z2,?_,z4,?_,nb⟩
   ·obtain⟨o,e,hd⟩:=kc _ _ z3;show⟨o,kp _ _ e,hd⟩
   ·obtain⟨o,e,hd⟩:=z3;obtain⟨_,_,nm2,_⟩:=a2.2.2.st _ _ e FQ;show nm2
 exact kla_eval (ahr LF.plain LF.ki) ?_;cases hf:kH pos ps.toList with
 |none=>
  exact kla_makeFunction iR c.st.gl Gs Au CH hP hT hf hgP BA λc' iP h' tk hx Mb rN uO Ug=>?_
  rewrite [hq] at uO
  have an:s.heap.get? c'=none:=gf Mb;have a1:At J w bz nil Y s Y { s with heap:=h',toks:=tk}:=(At.refl I).table (t:=(r.cd,Pt,r.ql)) ht hP hx Ug uO
  exact fin h' c' iP _ tk (λcc v x=>akl hx hP x) uO ?_ a1;exact DY I (λb o e=>?_) an;by_cases q:b=Pt
  ·subst q;show⟨_,Ug,λcc fs z=>absurd ⟨_,ht,rfl⟩ (I.FG z)⟩
  ·show⟨o,hx b o q e,λ_ _ _=>rfl⟩
 |some cv=>
  obtain⟨c',o',vs,t,rfl,e5,e6,e7⟩:=hA pos cv hf;exact kla_makeFunctionHit iR c.st.gl Gs Au CH hP hT hf BA λiP h' tk hk gx=>?_;have a1:At J w bz nil Y s Y { s with heap:=h',toks:=tk}:=(At.refl I).grow hk
  exact fin h' c' iP _ tk (λcc v zz=>by obtain⟨o,e,hd⟩:=zz;show⟨o,hk _ _ e,hd⟩) ⟨c',o',vs,t,rfl,hk _ _ e5,e6,e7⟩ ?_ a1;show λmm=>ah4 I e5 e6 e7 ((bu.grow I hk).mp mm)
@[elab_as_elim] theorem k8:∀{as:List Expr}{p}{P:List Expr->Prop},Iz as p=true->(∀i ar bo inner lp,p i ar bo inner=true->P (i++[.Lambda ar bo inner lp]))->P as
 | [],_,_,h,_=>(aF h).elim
 | [_],_,P,h,k=>K6 (P:=λe=>P [e]) h λar bo inner lp h=>k [] ar bo inner lp h
 |e::x::r,p,P,h,k=>k8 (P:=λl=>P (e::l)) (show Iz (x::r) (λl=>p (e::l))=true from h) λi ar bo inner lp h=>k (e::i) ar bo inner lp h
def Uh{z:Expr}(hz:∀env,bC [z] env=[(false,eval z env)]):∀{l:List E},(∀e∈l,SE e)->∀{F:dw}{W:Wo}{A:bp}{f:Act}{sc:Scope}{m:Env}{Y0 Y:So}{s0 s:Shared}{n:Nat},Cn J w bz F W A f sc m Y0 s0 Y s n->∀{init:List Expr}{pos:Pos},d9 sc l init=true->∀{Q:List V->So->Prop}{X:Nat->So->Prop},wEs W l m Q X Y->∀{P:List Value->Shared->Prop},
  (∀vs xs Y' s',bD vs xs->Q xs Y'->Cn J w bz F W A f sc m Y0 s0 Y' s' n->ae (ag J w) A (eval z f.env) (λv jv=>P (vs++[v]) jv) (BE J w bz F f.fl Y0 s0 X) s') ->
  ae (ag J w) A (gZ (cA pos (bC (init++[z]) f.env))) P (BE J w bz F f.fl Y0 s0 X) s:=by
 intro zl;induction zl with
 |nil=>
  intro _ F W A f sc m Y0 Y s0 s n c init pos aA Q X hw P h;show bq aA (by
   exact i7 (rest:=[]) (aI (h [] [] Y s .nil hw c) (λv s' q=>?_) λ_ _ q=>q) (hz f.env);show mV q)
 |cons e l ih=>
  intro hl F W A f sc m Y0 Y s0 s n c init pos aA Q X hw P h;have cG:wE W e m (λv s=>wEs W l m (λvs s=>Q (v::vs) s) X s) X Y:=hw;exact gH aA λex r h3 h1 h2=>?_;rw[fU];show i7 (SE.then (hl e (.head _)) c h1 cG λv x Y' s' hv hq c'=>ih (λe he=>hl e (.tail _ he)) c' h2 hq λvs xs iQ jv qh dH de=>h (v::vs) (x::xs) iQ jv (.cons hv qh) dH de) (Ai h3)
theorem ajC{g:Nat}{aw aG:List Nat}{ex:Expr}(h:aW sc (.gO g l aw b aG) ex=true):∃x p init ar bo inner lp pos,ex=.Call (.Name x p) (init++[.Lambda ar bo inner lp]) [] pos/\qQ sc x (kX g)=true/\d9 sc l init=true/\Ft sc aw aG ar inner=true/\aW inner b bo=true:=
 fE h λ_ _ _ q h=>dy h λx p h=>ie h λa b c=>bq b (k8 c λi ar bo inner lp h=>ie h λd e f=>⟨x,p,i,ar,bo,inner,lp,q,rfl,a,d,e,f⟩)
def aj0{env:aD}{pos:Pos}{bo:Expr}{inner:Scope}{lp:Pos}:∀{l:List E}{es:List Expr},d9 sc l es=true->(cA pos (bC (es++[.Lambda ar bo inner lp]) env)).any (·.1)=false/\∃t r,bC (es++[.Lambda ar bo inner lp]) env=(false,t)::r:=by
 intro zl;induction zl with
 |nil=>
  intro _ h;show bq h ⟨rfl,_,_,rfl⟩
 |cons zx _ ih=>
  intro _ h;show gH h λ_ r a _ h=>by
   have h1:=(ih h).1;rw[fU,Ai a];show⟨h1,_,_,rfl⟩
def aj9{g:Nat}{aw aG:List Nat}(hl:∀e∈l,SE e):SE (.gO g l aw b aG):=by
 intros;intro n c ex aA Q X hw;obtain⟨x,p,init,ar,bo,inner,lp,pos,rfl,h1,h2,h3,h4⟩:=ajC aA;obtain⟨r,hr⟩:=T3 h1;rw[vT];exact ah (DT c.cx c.st c.stays h1 ?_);obtain⟨s1,t,rr,s2⟩:=aj0 (env:=f.env) (pos:=pos) (ar:=ar) (bo:=bo) (inner:=inner) (lp:=lp) h2;exact kM (P:=(KF w.params).In) (by rw[s1];rfl) (L9 hr) ?_;have main:ae (ag J w) A (gZ (cA pos (bC (init++[.Lambda ar bo inner lp]) f.env))) (λvs s₁=>(KF w.params).In s₁.heap/\ae (ag J w) A (call (.ref (kX g)) ([]++vs)) (GE J w bz Y0 s0 Q) (BE J w bz F f.fl Y0 s0 X) s₁) (BE J w bz F f.fl Y0 s0 X) s:=by
  exact Uh (λenv=>rfl) hl c h2 hw λvs xs Y' s' hv hq c'=>?_;obtain⟨cs,hc,hq⟩:=vR hq;show anA c' h3 h4 hc λfa jv iR de=>⟨de.K,L8 de (hv.vc.snoc (show VC bz Y' jv.heap (.ref fa) (.dz aw b cs) from ⟨fa,rfl,iR⟩)) hq⟩
 rw[s2] at main ⊢;show mU main
theorem D1(id:String):∀h:Heap,True->∃k,(k=jj\/k=ji\/k=jh)/\jm M h (jb (.builtin id)) k:=λ_ _=>⟨.machine,.inr (.inl rfl),Looks.of_pure rfl⟩
theorem Ui(id:String):∀h:Heap,True->∃k,(k=jj\/k=ji\/k=jh)/\jm M h (jb (.type id)) k:=λ_ _=>⟨.machine,.inr (.inl rfl),Looks.of_pure rfl⟩
theorem ao1{o:Lm}{a:E}{ex:Expr}(h:aW sc (.lm o a l) ex=true):∃v ap es pos,ex=.Call (.Attribute v (ax (K5 o)) ap) es [] pos/\aW sc a v=true/\d9 sc l es=true/\(vQ v && ap.endLine == pos.line)=true/\es.length<20:=
 fE h λ_ es _ q h=>jT h λv _ ap h=>BM h λa b c d e f=>jU b (bq d ⟨v,ap,es,q,rfl,a,c,e,T4 f⟩)
def Uj:Lm->String
 | .append=>"list.append"
 | .extend=>"list.extend"
 | .pop=>"list.pop"
def anb{E:Value->Shared->Prop}{D:bU}{pl:Sem Bool}{Q:Value×List Value->Shared->Prop}(m:Lm)(ho:s.heap.get? D=some o)(hc:o.cls=.type "list")(hd:o.dict=none)
  (h:Q (.builtin (Uj m),[.ref D]) s):ae (ag J w) A (getMethod (.ref D) (ax (K5 m)) pl) Q E s:=by
 cases m with
 |append=>show pD ⟨o,ho,hc⟩ uB PySem.F.slot_list_append PySem.F.type_list_append (λa e=>by cases e;show⟨o,ho,hd⟩) h
 |extend=>show pD ⟨o,ho,hc⟩ uB z6 PySem.F.type_list_extend (λa e=>by cases e;show⟨o,ho,hd⟩) h
 |pop=>show pD ⟨o,ho,hc⟩ uB PySem.F.slot_list_pop PySem.F.type_list_pop (λa e=>by cases e;show⟨o,ho,hd⟩) h
theorem At.lst{s0:Shared}{a:Nat}(x:At J w bz own Y0 s0 Y s)(ho:Y a=some (.lst xs))(k:jg a s.heap h')(hn:h'.get? a=some (gh ws n))(r:bD ws ys)(hb:ys.length<=200000) :
  At J w bz own Y0 s0 (Tactic.put Y a (.lst ys)) { s with heap:=h',toks:=tk}:=x.store ho rfl rfl rfl rfl k (.lst hn r hb)
def akp{E:Value->Shared->Prop}{s0:Shared}{o:Lm}{a:Nat}(x:At J w bz nil Y0 s0 Y s)(r:bD vs xs)(h:QZ o (.ref a) xs Q Y) :
  ae (ag J w) A (call (.builtin (Uj o)) ([.ref a]++vs)) (GE J w bz Y0 s0 Q) E s:=by
 cases o with
 |append=>
  exact gi h r λc v hv h=>?_;obtain⟨ys,e,h⟩:=rJ h;obtain⟨us,n,g,q⟩:=iC (x.2.1.rep _ _ e);have hl:ys.length<100000:=h.1;exact append_at (its:=us.toArray) g (λh' k g'=>⟨_,_,.none,h.2,x.lst (tk:=s.toks) e k (ws:=us++[_]) (n:=n+1) (by rw[g'];simp) (q.app (.cons hv .nil)) (by simp;show⟨"A.199999,A>100000",hl⟩)⟩) ?_;rw[aM,q.len];show Aq hl
 |extend=>
  exact gi h r λc v hv h=>bV h hv λc h=>?_;obtain⟨ys,e,h⟩:=rJ h;obtain⟨zs,f,h⟩:=rJ h;obtain⟨us,n,g,q⟩:=iC (x.2.1.rep _ _ e);obtain⟨ts,m,g2,q2⟩:=iC (x.2.1.rep _ _ f);have hl:ys.length+zs.length<100000:=h.2.1;have gx:us.toArray.size+ts.toArray.size<=sizeLine:=by rw[aM,aM,q.len,q2.len];show Aq hl
  exact pN z6 ⟨_,g,rfl⟩ PySem.F.entry_list_extend (PySem.F.args_list_extend_2 _ _) (AutoSeq1.list_extend_list_list_0 a us.toArray n c ts.toArray m (extend_door gx) (kE (Nat.le_add_right _ _) gx)) ⟨g,g2,?_⟩;have g':(s.heap.update a (cZ λx=>x++ts.toArray)).get? a=some (gh (us++ts) (if (us.toArray++ts.toArray).size == us.toArray.size then n else n+1)):=by
   rw[mW _ g (by rw[mapSeq_app];rfl),mapSeq_app];simp
  show⟨_,_,.none,h.2.2,x.lst (tk:=s.toks) e (mY ..) g' (q.app q2) (by rw[cR];show⟨"A+B.200000,A+B>100000",hl⟩)⟩
 |pop=>
  exact Am h r λh=>?_;obtain⟨ys,e,zs,y,rfl,hq⟩:=rJ h;have le:=adm (x.2.1.rep _ _ e);obtain⟨us,n,g,q⟩:=iC (x.2.1.rep _ _ e);obtain⟨ws,v,rfl,q1,q2⟩:=q.snoc_inv;rw[cR] at le;exact Copied.pop_at (its:=(ws++[v]).toArray) (y:=v) g (by simp) (λh' k g'=>⟨_,_,q2,hq,x.lst (tk:=s.toks) e k (ws:=ws) (n:=n+1) (by rw[g'];simp) q1 ⟨"A.200000,A+(0+1).200000",le⟩⟩) ?_;rw[aM,cR,q1.len,cq];simp;show⟨"A.16777215,A+(0+1).200000",le⟩
def aou{o:Lm}{a:E}(ha:SE a)(hl:nH l):SE (.lm o a l):=by
 intros;intro n c ex aA Q X hw;obtain⟨v,ap,es,pos,rfl,h1,h2,h3,h4⟩:=ao1 aA;exact method_call ha c h1 h2 h3 h4 hw λov y Y' s' ho hq c' pl=>?_;exact bV hq ho λb hq=>?_;obtain⟨ys,e,hq⟩:=rJ hq;obtain⟨us,k,g,q⟩:=iC (c'.at_.2.1.rep _ _ e);show anb o g rfl rfl (callArgs (KP:=λ_=>True) hl c' h2 hq (D1 _) λvs xs iQ jv hv dH de _=>⟨trivial,akp de.at_ hv dH⟩)
set_option tactic.hygienic false
theorem GE.listAt{s0:Shared}{a:Nat}(x:At J w bz nil Y0 s0 Y s)(r:bD vs xs)(q:new (.lst xs) Q Y)(hb:xs.length<=200000)(hn:s.heap.get? a=none)(k:Grows s.heap h')(ha:h'.get? a=some (gh vs n)) :
  GE J w bz Y0 s0 Q (.ref a) { s with heap:=h',toks:=tk}:=
 ⟨_,_,.ref _,q _ (x.2.1.unset hn),x.add hn rfl k (.lst (n:=n) ha r hb)⟩
def Uk{a:Nat}(I:Inv J w bz Y h)(e:Y a=some (.lst xs)\/Y a=some (.tup xs)\/Y a=some (.fL xs)):∃us:List Value,bD us xs/\xs.length<=200000/\((h.IsList a us.toArray/\True)\/IsTup h a us.toArray):=by
 rcases e with e | e | e
 ·obtain⟨us,n,g,q⟩:=iC (I.rep _ _ e);show⟨us,q,adm (I.rep _ _ e),.inl ⟨dZ g,trivial⟩⟩
 ·obtain⟨us,g,q⟩:=uM (I.rep _ _ e);show⟨us,q,TB (I.rep _ _ e),.inr g⟩
 ·obtain⟨us,g,q⟩:=an7 (I.rep _ _ e);show⟨us,q,ana (I.rep _ _ e),.inl ⟨g,trivial⟩⟩
def ant{E:Value->Shared->Prop}{s0:Shared}(x:At J w bz nil Y0 s0 Y s)(r:bD vs xs)(h:bi .len xs Q Y) :
  ae (ag J w) A (call (.builtin "len") vs) (GE J w bz Y0 s0 Q) E s:=by
 exact gi h r λ_ _ hv h=>bV h hv λa h=>?_;obtain⟨xs,e,h⟩:=SQ h;obtain⟨us,q,le,g⟩:=Uk x.2.1 e;rcases g with⟨g,_⟩ | g
 ·exact call_len_list g (by rw[aM,q.len];show kj (dP.mpr le) (by decide)) ⟨_,Y,?_,h,x.toks⟩;rw[aM,q.len];show .int _ _
 ·exact PyProof.Rows.len_tuple g (by rw[aM,q.len];show kj (dP.mpr le) (by decide)) ⟨_,Y,?_,h,x.toks⟩;rw[aM,q.len];show .int _ _
def am1{E:Value->Shared->Prop}{s0:Shared}(x:At J w bz nil Y0 s0 Y s)(r:bD vs xs)(h:bi .lst xs Q Y) :
  ae (ag J w) A (call (.type "list") vs) (GE J w bz Y0 s0 Q) E s:=by
 exact gi h r λ_ _ hv h=>bV h hv λa h=>?_;obtain⟨xs,e,h⟩:=SQ h;obtain⟨us,q,_,g⟩:=Uk x.2.1 e;have hl:xs.length<100000:=h.1;obtain⟨T,o,n,hT,ho,hc,hd⟩:∃T o n,(T="list"\/T="tuple")/\s.heap.get? a=some o/\o.cls=.type T/\o.data=.seq us.toArray n:=by
  rcases g with⟨⟨o,ho,hc,n,hd⟩,_⟩ | ⟨o,ho,hc,n,hd⟩
  ·show⟨_,o,n,.inl rfl,ho,hc,hd⟩
  ·show⟨_,o,n,.inr rfl,ho,hc,hd⟩
 exact call_list_seq a hT ho hc hd (λh1 c k g=>?_) (by rw[aM,q.len];show Aq hl);show GE.listAt (tk:=s.toks) x q h.2 (kE (mz hl) (by decide)) (nY _) k g
def aoq{E:Value->Shared->Prop}{s0:Shared}(x:At J w bz nil Y0 s0 Y s)(r:bD vs xs)(h:bi .abs xs Q Y) :
  ae (ag J w) A (call (.builtin "abs") vs) (GE J w bz Y0 s0 Q) E s:=by
 exact gi h r λ_ _ hv h=>a8 h hv λi t h=>call_abs_int λu tk=>⟨_,Y,.int _ _,?_,x.toks⟩;have e:(if i<0 then -i else i)=(i.natAbs:Int):=by
  split<;>rename_i z
  ·show(Int.ofNat_natAbs_of_nonpos (cH z)).symm
  ·show(lT (cg.mp z)).symm
 rw[e];show h
def amM{E:Value->Shared->Prop}{s0:Shared}(hh:A.handled=none)(x:At J w bz nil Y0 s0 Y s)(r:bD vs xs)(h:bi .min xs Q Y) :
  ae (ag J w) A (call (.builtin "min") vs) (GE J w bz Y0 s0 Q) E s:=by
 exact An h r λ_ _ _ _ hv hu h=>a8 h hv λi t h=>a8 h hu λj u h=>min_two_ints hh λh1 tk k=>⟨_,Y,?_,h,x.grow k⟩;split<;>show .int _ _
def am4{E:Value->Shared->Prop}{s0:Shared}(hh:A.handled=none)(x:At J w bz nil Y0 s0 Y s)(r:bD vs xs)(h:bi .max xs Q Y) :
  ae (ag J w) A (call (.builtin "max") vs) (GE J w bz Y0 s0 Q) E s:=by
 exact An h r λ_ _ _ _ hv hu h=>a8 h hv λi t h=>a8 h hu λj u h=>max_two_ints hh λh1 tk k=>⟨_,Y,?_,h,x.grow k⟩;by_cases hc:i<j
 ·rw[if_pos hc,if_pos hc];show .int _ _
 ·rw[if_neg hc,if_neg hc];show .int _ _
theorem ajg{E:Value->Shared->Prop}{s0:Shared}(x:At J w bz nil Y0 s0 Y s)(r:bD vs xs)(h:gu xs λv=>d8 v λ_=>Q (.bool false) Y) :
  ae (ag J w) A (call (.builtin "isinstance") (vs++[.type "bool"])) (GE J w bz Y0 s0 Q) E s:=
 gi h r λ_ _ hv h=>a8 h hv λ_ _ h=>PySem.IsiPair.int_bool ⟨_,Y,.bool _,h,x.toks⟩
def insI_perm(x:Int):∀l:List Int,(insI x l).Perm (x::l):=by
 intro zl;induction zl with
 |nil=>
  show .refl _
 |cons y r ih=>
  dsimp only[insI];split
  ·show((ih).cons y).trans (.swap x y r)
  ·show .refl _
def sortI_perm:∀l:List Int,(sortI l).Perm l:=by
 intro zl;induction zl with
 |nil=>
  show .refl _
 |cons x r ih=>
  show(insI_perm x (sortI r)).trans ((ih).cons x)
def agS(x:Int):∀{l:List Int},l.Pairwise (·<=·)->(insI x l).Pairwise (·<=·):=by
 intro zl;induction zl with
 |nil=>
  intro _;dsimp only[insI];simp
 |cons y r ih=>
  intro h;rw[eZ] at h;dsimp only[insI];split
  ·rename_i hy;rw[eZ];exact⟨λz hz=>?_,ih h.2⟩;rcases az.mp ((insI_perm x r).mem_iff.mp hz) with rfl | hz
   ·show hy
   ·show h.1 z hz
  ·rename_i hy;rw[eZ,eZ];exact⟨λz hz=>?_,h⟩;rcases az.mp hz with rfl | hz
   ·show⟨"a:b,!b:a",hy⟩
   ·have:=h.1 z hz;show⟨"a:b,!c:a,c:b",hy,this⟩
def agy:∀l:List Int,(sortI l).Pairwise (·<=·):=by
 intro zl;induction zl with
 |nil=>
  show .nil
 |cons x r ih=>
  show agS x (ih)
def ajN{ns:List Int}(h:IntsAre vs ns):bD vs (ns.map V.int):=by
 induction h with
 |nil=>show .nil
 |cons n t _ ih=>show .cons (.int n t) ih
def ae1{E:Value->Shared->Prop}{s0:Shared}{a:Nat}{l:List Int}(x:At J w bz nil Y0 s0 Y s)(e:Y a=some (.lst (l.map V.int)))(hl:l.length<64)(q:new (.lst ((sortI l).map V.int)) Q Y) :
  ae (ag J w) A (call (.builtin "sorted") [.ref a]) (GE J w bz Y0 s0 Q) E s:=by
 obtain⟨us,n,g,r⟩:=iC (x.2.1.rep _ _ e);have hlen:us.length=l.length:=by rw[r.len,bP]
 exact sorted_ints (dZ g) r.ints ⟨"A>64,B>64,A~B",hl,hlen⟩ λout B4 h1 h2 h3=>?_;have es:B4=sortI l:=ksm_same (h2.trans (sortI_perm l).symm) h3 (agy l);subst es;obtain⟨ep,g'⟩:=sortedAll_at s.heap us out;exact GE.listAt (tk:=s.toks) x (ajN h1) q (by rw[bP,h2.length_eq];show⟨"A.200000,A>64",hl⟩) (gf (i6 _)) (λb o e=>sortedAll_old e) (n:=ep) ?_;rw[g']
set_option tactic.hygienic true
def uP{α:Type}(b:Nat->Nat->Bool)(n:Nat):KasT α->Option α
 | .ret a=>some a
 | .ask i j k=>if i<n/\j<n/\i≠j then uP b n (k (b i j)) else none
theorem Ul{α:Type}{b c:Nat->Nat->Bool}(h:∀i j,i<n->j<n->i≠j->b i j=c i j):∀t:KasT α,uP b n t=uP c n t
 | .ret a=>rfl
 | .ask i j k=>by
  dsimp only[uP];by_cases q:i<n/\j<n/\i≠j
  ·rw[if_pos q,if_pos q,h i j q.1 q.2.1 q.2.2];show Ul h _
  ·rw[if_neg q,if_neg q]
theorem Um{α:Type}{b:Nat->Nat->Bool}{cmp:Nat->Nat->(Bool->Shared->Prop)->Shared->Prop}(h:∀i j,i<n->j<n->i≠j->∀C:Bool->Shared->Prop,C (b i j) s->cmp i j C s):∀{t:KasT α}{a:α},uP b n t=some a->∀{Q:α->Shared->Prop},Q a s->t.kasWp cmp Q s
 | .ret a,_,e,_,q=>by cases e;show q
 | .ask i j k,a,e,Q,q=>by
  dsimp only[uP] at e;by_cases c:i<n/\j<n/\i≠j
  ·rewrite [if_pos c] at e;show h i j c.1 c.2.1 c.2.2 _ (Um h e q)
  ·nomatch if_neg c,e
def Md(x:Bool)(i j:Nat):Bool:=match i,j with
 |0,1=>x
 |1,0=>!x
 |_,_=>false
def Mf(x y z:Bool)(i j:Nat):Bool:=match i,j with
 |0,1=>x
 |0,2=>y
 |1,2=>z
 |1,0=>!x
 |2,0=>!y
 |2,1=>!z
 |_,_=>false
def Jc(b:Nat->Nat->Bool)(n:Nat)(o:Option (Array Nat)):Bool:=match o with
 |some p=>p.toList.isPerm (dA n) && decide (p.toList.Pairwise λi j=>b i j=true)
 |none=>false
def aoK:∀x:Bool,Jc (Md x) 2 (uP (Md x) 2 (m7 2))=true:=by decide +kernel
def aoN:∀x y z:Bool,(x && z && !y || !x && !z && y)=false->Jc (Mf x y z) 3 (uP (Mf x y z) 3 (m7 3))=true:=by decide +kernel
def aku{b:Nat->Nat->Bool}{o:Option (Array Nat)}(h:Jc b n o=true):∃p,o=some p/\p.toList.Perm (dA n)/\p.toList.Pairwise λi j=>b i j=true:=by
 cases o with
 |none=>cases h
 |some p=>
  have h:=dN.mp (show(p.toList.isPerm (dA n) && decide (p.toList.Pairwise λi j=>b i j=true))=true from h);show⟨p,rfl,List.isPerm_iff.mp h.1,of_decide_eq_true h.2⟩
theorem Mg(h:i<2):i=0\/i=1:=(y5 (y7 h)).elim (λh=>.inl (Nat.lt_one_iff.mp h)) .inr
theorem Mh(h:i<3):i=0\/i=1\/i=2:=(y5 (y7 h)).elim (λh=>(Mg h).imp id .inl) λe=>.inr (.inr e)
def Jd{a b:Int}(h:a≠b):decide (b<a)=!decide (a<b):=by
 by_cases q:a<b
 ·rw[decide_eq_true q,decide_eq_false (cg.mpr (cH q))];rfl
 ·rw[decide_eq_false q,decide_eq_true (iW.mpr ⟨cg.mp q,h.symm⟩)];rfl
def alI{a b c:Int}:(decide (a<b) && decide (b<c) && !decide (a<c) || !decide (a<b) && !decide (b<c) && decide (a<c))=false:=by
 by_cases y:a<c
 ·rw[decide_eq_true y];by_cases x:a<b
  ·rw[decide_eq_true x];cases decide (b<c)<;>rfl
  ·rw[decide_eq_false x,decide_eq_true (kj (cg.mp x) y)];rfl
 ·rw[decide_eq_false y];by_cases x:a<b
  ·rw[decide_eq_true x,decide_eq_false λh=>y (gR x h)];rfl
  ·rw[decide_eq_false x];cases decide (b<c)<;>rfl
def ams(nd:ks.Nodup)(h2:2<=ks.length)(h3:ks.length<=3):∃p,uP (λi j=>decide (ks.getD i 0<ks.getD j 0)) ks.length (m7 ks.length)=some p/\p.toList.Perm (dA ks.length)/\p.toList.Pairwise λi j=>ks.getD i 0<ks.getD j 0:=by
 have fin:∀{c:Nat->Nat->Bool},(∀i j,i<ks.length->j<ks.length->i≠j->decide (ks.getD i 0<ks.getD j 0)=c i j)->Jc c ks.length (uP c ks.length (m7 ks.length))=true->∃p,uP (λi j=>decide (ks.getD i 0<ks.getD j 0)) ks.length (m7 ks.length)=some p/\p.toList.Perm (dA ks.length)/\p.toList.Pairwise λi j=>ks.getD i 0<ks.getD j 0:=λ{c} hc hg=>by
  obtain⟨p,e1,e2,e3⟩:=aku hg;exact⟨p,(Ul hc _).trans e1,e2,?_⟩;have dD:p.toList.Nodup:=e2.nodup_iff.mpr List.nodup_range;have:p.toList.Pairwise λi j=>i<ks.length/\j<ks.length/\i≠j/\c i j=true:=by
   exact List.Pairwise.imp_of_mem ?_ (dD.and e3);intro i j hi hj h;show⟨gW.mp (e2.mem_iff.mp hi),gW.mp (e2.mem_iff.mp hj),h.1,h.2⟩
  exact this.imp λ{i j} h=>?_
  have:=hc i j h.1 h.2.1 h.2.2.1
  rewrite [h.2.2.2] at this
  show of_decide_eq_true this
 rcases ks with _ | ⟨k0,_ | ⟨k1,_ | ⟨k2,_ | ⟨k3,ks⟩⟩⟩⟩
 ·simp at h2
 ·simp at h2
 ·rewrite [aX,ku] at nd
  exact fin (c:=Md (decide (k0<k1))) (λi j hi hj hn=>?_) (aoK _);rcases Mg hi with rfl | rfl<;>rcases Mg hj with rfl | rfl<;>first | show absurd rfl hn | rfl | show Jd nd.1
 ·rewrite [aX,aX,az,ku,ku,not_or] at nd
  exact fin (c:=Mf (decide (k0<k1)) (decide (k0<k2)) (decide (k1<k2))) (λi j hi hj hn=>?_) (aoN _ _ _ alI);rcases Mh hi with rfl | rfl | rfl<;>rcases Mh hj with rfl | rfl | rfl<;>first | show absurd rfl hn | rfl | show Jd nd.1.1 | show Jd nd.1.2 | show Jd nd.2.1
 ·simp at h3
class inductive PT(h:Heap):List Nat->List Int->Prop
 |nil:PT h [] []
 |cons {a:Nat}{o:Obj}{i j:Int}{t u:Tok}{n:Nat}{as:List Nat}{ks:List Int}:h.get? a=some o->o.cls=.type "tuple"->o.data=.seq #[.int i t,.int j u] n->PT h as ks->PT h (a::as) (i::ks)
def PT.len(x:PT h as ks):as.length=ks.length:=by
 induction x with
 |nil=>rfl
 |cons _ _ _ _ ih=>simp[ih]
def PT.keep(x:PT h as ks)(k:∀b o,b∈as->h.get? b=some o->o.cls=.type "tuple"->h'.get? b=some o):PT h' as ks:=by
 induction x with
 |nil=>show .nil
 |cons a b c _ ih=>show .cons (k _ _ (.head _) a b) b c (ih λb' o' m=>k b' o' (.tail _ m))
def PT.at(x:PT h as ks):∀{i:Nat},i<as.length->∃o t j u n,h.get? (as.getD i 0)=some o/\o.cls=.type "tuple"/\o.data=.seq #[.int (ks.getD i 0) t,.int j u] n:=by
 induction x with
 |nil=>intro i h;cases h
 |cons a b c _ ih=>intro i h;cases i with
  |zero=>show⟨_,_,_,_,_,a,b,c⟩
  |succ i=>simp at h;show ih h
def PT.kat(x:PT h as ks):∃fs:List Value,KatTups h (as.map aC) fs/\fs.length=as.length/\∀v∈fs,∃i t,v=.int i t:=by
 induction x with
 |nil=>show⟨[],KatTups.nil,rfl,λv hv=>by cases hv⟩
 |cons a b c _ ih=>
  obtain⟨fs,h1,h2,h3⟩:=ih;exact⟨_::fs,KatTups.cons a b c (f:=.int _ _) rfl h1,by simp[h2],λv hv=>?_⟩;rcases az.mp hv with rfl | hv
  ·show⟨_,_,rfl⟩
  ·show h3 v hv
def Mi(h:i<as.length):(as.map aC).getD i dK=.ref (as.getD i 0):=by
 simp[fQ,aS h]
def amV(x:PT s.heap as ks)(nd:ks.Nodup){j:Nat}(hi:i<ks.length)(hj:j<ks.length)(hn:i≠j){C:Bool->Shared->Prop}(h:C (decide (ks.getD i 0<ks.getD j 0)) s) :
  kas_ask J w A (tuples' true) (as.map aC) i j C s:=by
 have hl:=x.len;unfold kas_ask;rw[Mi ⟨"A>B,A>C,B~C;1,1,-1",hi,hl⟩,Mi ⟨"A>B,A>C,B~C;1,1,-1",hj,hl⟩];obtain⟨o,t,a,u,n,e1,e2,e3⟩:=x.at (i:=i) ⟨"A>B,A>C,B~C;1,1,-1",hi,hl⟩;obtain⟨o',t',a',u',n',f1,f2,f3⟩:=x.at (i:=j) ⟨"A>B,A>C,B~C;1,1,-1",hj,hl⟩;exact kat_lt e1 e3 f1 f3 (kat_cons (wpAny_eqBool_int ?_));have aU:(ks.getD i 0 == ks.getD j 0)=false:=by
  rw[beq_eq_false_iff_ne];intro q
  rewrite [fQ,fQ,aS hi,aS hj] at q
  show hn ((List.getElem_inj nd).mp q)
 rw[aU];show kat_no (oneLt_int h)
def Un{E:Value->Shared->Prop}{a:bU}{P:PySem.Fin->Shared->Prop}(ho:s.heap.get? a=some (bX "list" (as.map aC).toArray n))(x:PT s.heap as ks)(nd:ks.Nodup)(h3:ks.length<=3)
  (h:∀zs:List (Int×Nat),zs.Perm (ks.zip as)->zs.Pairwise (λp q=>p.1<q.1)->P (.done (.ret .none)) { s with heap:=tB s.heap a (as.map aC) (zs.map λp=>aC p.2).toArray}) :
  ae (ag J w) A (ft.«list.sort» ⟨[.ref a],[]⟩) P E s:=by
 have hl:=x.len;rw[list_sort_plain];have ha:a<s.heap.objs.size:=bM ho;have hz:(as.map aC).toArray.size<=sizeLine:=by rw[aM,bP,cq];show⟨"A.16777216,B.3,A~B",h3,hl⟩
 exact ah (ti ho rfl ?_);exact ah (sZ ho rfl ?_ hz (fh _));obtain⟨e1,Je⟩:∃e1,(s.heap.update a (cZ λ_=>#[])).get? a=some (bX "list" #[] e1):=⟨_,sY ho (λ_=>#[])⟩;exact ah (seqEpoch_at Je rfl ?_);exact ah (wpAny_newTuple ?_ (by show(as.map aC).length<=_;rw[bP,cq];show⟨"A.16777216,B.3,A~B",h3,hl⟩));exact ah (mI ?_ (fh _));exact bY ?_;have Jf:(((s.heap.update a (cZ λ_=>#[])).push (bX "tuple" (as.map aC).toArray 0)).push (bX "list" #[] 0)).get? a=some (bX "list" #[] e1):=by
  rw[pZ _ _ _ (by rw[tD,uC];show b9 (sJ ha)),pZ _ _ _ (by rw[uC];show b9 ha)];show Je
 have x6:PT (((s.heap.update a (cZ λ_=>#[])).push (bX "tuple" (as.map aC).toArray 0)).push (bX "list" #[] 0)) as ks:=x.keep λb o _ e hc=>by
  exact aZ _ (aZ _ ?_);rw[pY _ _ _ _ (λq=>?_)]
  ·show e
  ·clear h ha Je Jf;subst q;rewrite [ho] at e;obtain rfl:=bR e;simp at hc
 show ae (ag J w) A _ P E { s with heap:=((s.heap.update a (cZ λ_=>#[])).push (bX "tuple" (as.map aC).toArray 0)).push (bX "list" #[] 0)}
 dsimp only;have hS:∀out,(((s.heap.update a (cZ λ_=>#[])).push (bX "tuple" (as.map aC).toArray 0)).push (bX "list" #[] 0)).update a (cZ λ_=>out)=tB s.heap a (as.map aC) out:=λ_=>rfl;generalize ((s.heap.update a (cZ λ_=>#[])).push (bX "tuple" (as.map aC).toArray 0)).push (bX "list" #[] 0)=H at Jf x6 hS ⊢;clear Je x;have fin:∀jw:SortSt,failedOf jw=none->(∃zs:List (Int×Nat),zs.Perm (ks.zip as)/\zs.Pairwise (λp q=>p.1<q.1)/\(arrOf jw).map (·.2)=(zs.map λp=>aC p.2).toArray) ->
   ae (ag J w) A (do
    let touched:=(<-seqEpoch a) != e1
    Builtin.List.listUpdate (.ref a) λ_=>(arrOf jw).map (·.2)
    if let some e:=failedOf jw then rule "list.sort.comparison-raised";throw e
    if touched then rule "list.sort.modified";raiseError "ValueError" "list modified during sort"
    ret .none) P E { s with heap:=H}:=by
  rintro jw hf ⟨zs,hp,hs,ho⟩;have B5:zs.length<=3:=by rw[hp.length_eq,iZ];show⟨"A.3,B.3,A.B",h3,fe _ _⟩
  exact ah (seqEpoch_at Jf rfl ?_);exact ah (sZ Jf rfl ?_ (fh _) (by rw[ho];show(zs.map _).toArray.size<=_;rw[aM,bP,cq];show⟨"A.16777216+1,A.3",B5⟩));rw[hf];simp only[bne_self_eq_false,rW,if_false];rw[ho];have z:=h zs hp hs
  rewrite [<-hS] at z
  show aq z
 by_cases h2:(as.map aC).toArray.size<2
 ·rw[if_pos h2,if_pos h2];exact ah (aq ?_);rw[StateT.run_pure];exact ah (aq ?_);exact fin _ rfl ⟨ks.zip as,.refl _,?_,?_⟩
  ·rewrite [aM,bP] at h2
   rcases as with _ | ⟨a0,_ | ⟨a1,as⟩⟩
   ·simp
   ·rcases ks with _ | ⟨k0,_ | ⟨k1,ks⟩⟩<;>simp
   ·simp at h2;show fO ⟨"_,A+1+1>2",h2⟩
  ·show(Array.zip _ _).map (·.2)=_;rcases as with _ | ⟨a0,_ | ⟨a1,as⟩⟩
   ·simp
   ·rcases ks with _ | ⟨k0,_ | ⟨k1,ks⟩⟩
    ·cases hl
    ·simp
    ·cases hl
   ·simp at h2;show fO ⟨"_,A+1+1>2",h2⟩
 ·rw[if_neg h2,if_neg h2]
  rewrite [aM,bP] at h2
  obtain⟨fs,t1,t2,t3⟩:=x6.kat;exact ah (kat_kind t1 (T:=.type "int") ⟨"0>A,!B>2,A~B;1,1,-1",h2,t2⟩ (λv hv=>?_) rfl ?_)
  ·obtain⟨i,t,rfl⟩:=t3 v hv;show Looks.of_pure rfl
  ·obtain⟨p,r1,r2,r3⟩:=ams nd ⟨"2.A,B~A,!B>2",hl,h2⟩ h3;have Mj:(as.map aC).length=ks.length:=by rw[bP,hl]
   exact ah (aI (kat_run (κ:=tuples' true) (ks:=as.map aC) (vs:=as.map aC) (Q:=λjw s'=>s'={ s with heap:=H}/\failedOf jw=none/\(arrOf jw).map (·.2)=yS (p.toList.map λi=>(as.map aC).getD i dK))
    (G:=λp' s'=>p'=p/\s'={ s with heap:=H}) rfl ⟨"2.A,B~C,!B>2,A~C;1,1,1,-1",hl,h2,Mj⟩ ⟨"A>64,B.3,A~B",h3,Mj⟩ (λp' jw s' a1 a2 a3 a4=>?_) ?_) ?_ λ_ _ e=>e)
   ·obtain⟨rfl,rfl⟩:=a4;show⟨rfl,a3,kat_snds rfl a2⟩
   ·rw[Mj];show Um (λi j hi hj hn C hC=>amV x6 nd hi hj hn hC) r1 ⟨rfl,rfl⟩
   ·rintro⟨⟨⟩,jw⟩ s' ⟨rfl,hf,wU⟩;exact fin jw hf ⟨p.toList.map λi=>(ks.getD i 0,as.getD i 0),?_,?_,?_⟩
    ·have e:ks.zip as=(dA ks.length).map λi=>(ks.getD i 0,as.getD i 0):=by
      apply List.ext_getElem
      ·simp[hl]
      ·intro i h1 h2
       rewrite [iZ] at h1
       have Uo:i<ks.length:=⟨"A>B,A>C,C.B",h1,fe _ _⟩;have h1b:i<as.length:=⟨"A>B,B~C,A>C;1,-1,1",hl,Uo⟩;simp[fQ,aS Uo,aS h1b]
     rw[e];show r2.map _
    ·rw[sC];show r3
    ·dsimp only at wU ⊢;rw[wU,i5]
     congr 1
     exact yD λi hi=>?_;have:=gW.mp (r2.mem_iff.mp hi);show Mi ⟨"A>B,B~C,A>C;1,-1,1",hl,this⟩
set_option tactic.hygienic false
def Uq(x:Int×V):∀l:List (Int×V),(uF x l).Perm (x::l):=by
 intro zl;induction zl with
 |nil=>
  show .refl _
 |cons y r ih=>
  dsimp only[uF];split
  ·show((ih).cons y).trans (.swap x y r)
  ·show .refl _
def Jg:∀l:List (Int×V),(lJ l).Perm l:=by
 intro zl;induction zl with
 |nil=>
  show .refl _
 |cons x r ih=>
  show(Uq x (lJ r)).trans ((ih).cons x)
def agR(x:Int×V):∀{l:List (Int×V)},l.Pairwise (λp q=>p.1<=q.1)->(uF x l).Pairwise λp q=>p.1<=q.1:=by
 intro zl;induction zl with
 |nil=>
  intro _;dsimp only[uF];simp
 |cons y r ih=>
  intro h;rw[eZ] at h;dsimp only[uF];split
  ·rename_i hy;rw[eZ];exact⟨λz hz=>?_,ih h.2⟩;rcases az.mp ((Uq x r).mem_iff.mp hz) with rfl | hz
   ·show⟨"a:b,a<b",hy⟩
   ·show h.1 z hz
  ·rename_i hy;rw[eZ,eZ];exact⟨λz hz=>?_,h⟩;rcases az.mp hz with rfl | hz
   ·show⟨"a:b,!b<a",hy⟩
   ·have:=h.1 z hz;show⟨"a:b,!c<a,c:b",hy,this⟩
def Ur:∀l:List (Int×V),(lJ l).Pairwise λp q=>p.1<=q.1:=by
 intro zl;induction zl with
 |nil=>
  show .nil
 |cons x r ih=>
  show agR x (ih)
def alS{α:Type}{l:List (Int×α)}(nd:(l.map (·.1)).Nodup){p q:Int×α}(hp:p∈l)(hq:q∈l)(e:p.1=q.1):p=q:=by
 induction l with
 |nil=>cases hp
 |cons a r ih=>
  rw[bQ,aX] at nd;rcases az.mp hp with e1 | wV<;>rcases az.mp hq with e2 | dH
  ·rw[e1,e2]
  ·show absurd (aQ.mpr ⟨q,dH,by rw[<-e,e1]⟩) nd.1
  ·show absurd (aQ.mpr ⟨p,wV,by rw[e,e2]⟩) nd.1
  ·show ih nd.2 wV dH
theorem akr{qs:List (Int×V)}(nd:(ps.map (·.1)).Nodup)(hp:qs.Perm ps)(hs:qs.Pairwise λp q=>p.1<q.1):lJ ps=qs:=
 ((Jg ps).trans hp.symm).eq_of_pairwise (le:=λp q=>p.1<=q.1) (λa b ha hb h1 h2=>alS nd ((Jg ps).mem_iff.mp ha) (hp.mem_iff.mp hb) ⟨"a=b,a:b,b:a;1,1,0;1,0,1",h1,h2⟩) (Ur ps) (hs.imp λh=>⟨"a:b,a<b",h⟩)
def ai7{E:Value->Shared->Prop}{l:bU}{Q:Value->Shared->Prop}(hl:s.heap.IsList l (as.map aC).toArray)(x:PT s.heap as ks)(nd:ks.Nodup)(h3:ks.length<=3)
  (h:∀zs:List (Int×Nat),zs.Perm (ks.zip as)->zs.Pairwise (λp q=>p.1<q.1)->Q (.ref (s.heap.objs.size+1)) { s with heap:=sortedAll s.heap (as.map aC) (zs.map λp=>aC p.2).toArray}) :
  ae (ag J w) A (call (.builtin "sorted") [.ref l]) Q E s:=by
 have hz:(as.map aC).length<=sizeLine:=by rw[bP,x.len,cq];show⟨"A.16777216,A.3",h3⟩
 exact Calls.call_function_entry tu tj tm (tq _) ?_;unfold ft.«sorted»;exact ah (m:=uh "sorted" 1 1 _) (aq ?_);exact ah (collect_list hl ?_ hz);exact ah (mI ?_ hz);have gx:((s.heap.push (bX "list" #[] 0)).update s.heap.objs.size (cZ (·++(as.map aC).toArray))).objs.size=s.heap.objs.size+1:=by
  rw[uC,tD]
 have Us:(((s.heap.push (bX "list" #[] 0)).update s.heap.objs.size (cZ (·++(as.map aC).toArray))).push (bX "list" (as.map aC).toArray 0)).get? (s.heap.objs.size+1)=some (bX "list" (as.map aC).toArray 0):=by
  rw[<-gx];show cJ _ rfl
 have x':PT (((s.heap.push (bX "list" #[] 0)).update s.heap.objs.size (cZ (·++(as.map aC).toArray))).push (bX "list" (as.map aC).toArray 0)) as ks:=x.keep λb o _ e _=>by
  have rN:b<s.heap.objs.size:=bM e;rw[pZ _ _ _ (by rw[gx];show b9 (sJ rN)),pY _ _ _ _ (b9 rN),pZ _ _ _ (b9 rN)];show e
 show ae _ _ _ _ _ { s with heap:=((s.heap.push (bX "list" #[] 0)).update s.heap.objs.size (cZ (·++(as.map aC).toArray))).push (bX "list" (as.map aC).toArray 0)}
 rw[gx];exact ah (bY (pE slot_list_sort ⟨_,Us,rfl⟩ entry_list_sort (Un Us x' nd h3 λzs a1 a2=>⟨_,rfl,?_⟩) (args_list_sort _)));show aq ⟨_,rfl,h zs a1 a2⟩
def ajz(R:∀a o,Y a=some o->OR J w h a o)(x:Pairs Y xs ps):∀{us:List Value},bD us xs->∃as:List Nat,us=as.map aC/\PT h as (ps.map (·.1))/\ps.map (·.2)=as.map V.ref:=by
 induction x with
 |nil=>intro us r;cases r;show⟨[],rfl,.nil,rfl⟩
 |cons e t ih=>
  intro us r;obtain _ | ⟨hv,r⟩:=r;rw[hv.wJ];obtain⟨as,h1,h2,h3⟩:=ih r;obtain⟨ws,⟨o,ho,hc,n,hd⟩,q⟩:=uM (R _ _ e);obtain⟨t,u,rfl⟩:=q.two;show⟨_::as,by rw[h1];rfl,.cons ho hc hd h2,by rw[bQ,bQ,h3]⟩
def alQ(e:ps.map (·.2)=as.map V.ref):ps=((ps.map (·.1)).zip as).map λp=>(p.1,V.ref p.2):=by
 induction ps generalizing as with
 |nil=>cases as<;>rfl
 |cons p r ih=>
  cases as with
  |nil=>cases e
  |cons a as=>
   rw[bQ,bQ] at e;obtain⟨e1,e2⟩:=List.cons.inj e;rw[bQ,dQ,bQ,<-ih e2];obtain⟨i,v⟩:=p;dsimp only at e1 ⊢;rw[e1]
def Ut:∀l:List Nat,bD (l.map aC) (l.map V.ref):=by
 intro zl;induction zl with
 |nil=>
  show .nil
 |cons a l ih=>
  show .cons (.ref a) (ih)
def Uu{zs:List (Int×Nat)}(e:ps.map (·.2)=as.map V.ref)(nd:(ps.map (·.1)).Nodup)(hp:zs.Perm ((ps.map (·.1)).zip as))(hs:zs.Pairwise λp q=>p.1<q.1):(lJ ps).map (·.2)=(zs.map (·.2)).map V.ref:=by
 have h1:(zs.map λp=>(p.1,V.ref p.2)).Perm ps:=by
  conv=>rhs;rw[alQ e]
  show hp.map _
 rw[akr nd h1 (by rw[sC];show hs),i5,i5];rfl
def aeA{E:Value->Shared->Prop}{s0:Shared}{a:Nat}(x:At J w bz nil Y0 s0 Y s)(e:Y a=some (.lst xs))(hp:Pairs Y xs ps)(nd:(ps.map (·.1)).Nodup)(h3:ps.length<=3)(q:new (.lst ((lJ ps).map (·.2))) Q Y) :
  ae (ag J w) A (call (.builtin "sorted") [.ref a]) (GE J w bz Y0 s0 Q) E s:=by
 obtain⟨us,n,g,r⟩:=iC (x.2.1.rep _ _ e);obtain⟨as,rfl,h1,h2⟩:=ajz x.2.1.rep hp r;exact ai7 (dZ g) h1 nd (by rw[bP];show h3) λzs z1 z2=>?_;obtain⟨ep,g'⟩:=sortedAll_at s.heap (as.map aC) (zs.map λp=>aC p.2).toArray;rw[Uu h2 nd z1 z2] at q;exact GE.listAt (tk:=s.toks) x (vs:=(zs.map (·.2)).map aC) (Ut _) q ?_ (gf (i6 _)) (λb o e=>sortedAll_old e) (n:=ep) ?_
 ·rw[bP,bP,z1.length_eq,iZ,bP];show⟨"A.200000,B.3,A.B",h3,fe _ _⟩
 ·rw[g',i5];rfl
def At.apl{s0:Shared}{a:Nat}(x:At J w bz own Y0 s0 Y s)(hn:Y a=none)(hs:s0.heap.get? a=none)(r:OR J w s.heap a (.tup xs)):At J w bz own Y0 s0 (Tactic.put Y a (.tup xs)) s:=by
 obtain⟨⟨h,t,e⟩,I,S⟩:=x;have da:∀b d,dh (Tactic.put Y a (.tup xs)) s.heap b d↔dh Y s.heap b d:=by
  intro b d;constructor
  ·rintro⟨c,fs,ox,e,hx,hd⟩;rcases lK e with⟨rfl,e'⟩ | ⟨aU,e'⟩
   ·cases e'
   ·show⟨c,fs,ox,e',hx,hd⟩
  ·rintro⟨c,fs,ox,e,hx,hd⟩;have aU:b≠a:=λq=>by subst q;nomatch hn,e
   show⟨c,fs,ox,by rw[ig aU];show e,hx,hd⟩
 have mu:∀b,bu (Tactic.put Y a (.tup xs)) s.heap b↔bu Y s.heap b:=by
  intro b;unfold bu;simp only[da];constructor
  ·rintro(⟨q,e,m⟩ | y)
   ·rcases lK e with⟨rfl,rfl⟩ | ⟨_,e'⟩
    ·cases m
    ·show .inl ⟨q,e',m⟩
   ·show .inr y
  ·rintro(⟨q,e,m⟩ | y)
   ·have aU:b≠a:=λq=>by subst q;nomatch hn,e
    show .inl ⟨q,by rw[ig aU];show e,m⟩
   ·show .inr y
 exact⟨⟨h,t,e⟩,⟨I.stays,λb q e=>?_,λb ob e m=>I.old b ob e ((mu b).mp m),λb d y=>?_,λb c d y z=>I.inj b c d ((da _ _).mp y) ((da _ _).mp z),I.tab⟩,⟨S.kp,λb o e n=>?_,λb o e n=>(ig λq=>by clear da hn mu r;subst q;nomatch hs,e).trans (S.nw b o e n)⟩⟩
 ·rcases lK e with⟨rfl,rfl⟩ | ⟨_,e'⟩
  ·show r
  ·show I.rep b q e'
 ·have y':=(da _ _).mp y;have aU:d≠a:=λq=>by
   clear da hn hs mu y;subst q;obtain⟨es,n,e1⟩:=I.IK y';obtain⟨us,⟨o,ho,hc,n',hd⟩,_⟩:=uM r
   nomatch e1,ho;cases hd
  rw[ig aU];show I.sep b d y'
 ·obtain⟨o',e1,e2,e3⟩:=S.st b o e n;show⟨o',e1,λm=>e2 ((mu b).mp m),e3⟩
def aig{K:List (Int×V)->So->Prop}{s0:Shared}:∀{as:List Nat}{acc:List (Int×V)}{Y:So},At J w bz own Y0 s0 Y s->as.length=es.length->as.Nodup->(∀a∈as,Y a=none)->(∀a∈as,s0.heap.get? a=none)->(∀(j a:Nat),as[j]?=some a->∃k x,es[j]?=some (k,x)/\OR J w s.heap a (.tup [.int k,x]))->Bx K es acc Y ->
  ∃Y',K (acc++(es.map (·.1)).zip (as.map V.ref)) Y'/\At J w bz own Y0 s0 Y' s/\∀b,b∉as->Y' b=Y b:=by
 induction es with
 |nil=>
  intro as acc Y x hl _ _ _ _ h;have e:as=[]:=eu.mp hl;rw[e];show⟨Y,by have h':K acc Y:=h;simpa using h',x,λ_ _=>rfl⟩
 |cons p es ih=>
  obtain⟨k,v⟩:=p;intro as acc Y x hl nd hn hs hp h;cases as with
  |nil=>cases hl
  |cons a as=>
  rw[aX] at nd;obtain⟨k',v',e1,e2⟩:=hp 0 a rfl;cases e1;have h':Bx K es (acc++[(k,.ref a)]) (put Y a (.tup [.int k,v])):=h a (hn a (.head _));obtain⟨Y',h1,h2,h3⟩:=ih (x.apl (hn a (.head _)) (hs a (.head _)) e2) (by simpa using hl) nd.2 (λb hb=>by rw[ig (λq=>by clear e2 h' hl hn hp hs;subst q;show nd.1 hb)];show hn b (.tail _ hb)) (λb hb=>hs b (.tail _ hb)) (λj b hj=>hp (j+1) b hj) h';exact⟨Y',by simpa using h1,h2,λb hb=>?_⟩;rw[h3 b (λq=>hb (.tail _ q)),ig (λq=>by clear e2 h' h1 h3 hl hn hp hs nd;subst q;show hb (.head _))]
set_option tactic.hygienic true
theorem akE{a:E}{ex:Expr}(h:aW sc (.items a) ex=true):∃g gp v ap ps pos,ex=.Call (.Name g gp) [.Call (.Attribute v "items" ap) [] [] ps] [] pos/\qe sc g "sorted"=true/\aW sc a v=true/\(vQ v && ap.endLine == ps.line)=true:=
 fE h λ_ _ _ q h=>dy h λg gp h=>dv h λ_ h=>fE h λ_ _ _ ps h=>jT h λv _ ap h=>BL h λa b c d e=>ie d λx y z=>bq x (bq y (bq z (jU c ⟨g,gp,v,ap,ps,q,rfl,a,b,e⟩)))
def Uv{E:Value->Shared->Prop}{Q:Value->Shared->Prop}(x:PT s.heap as ks)(nd:ks.Nodup)(h3:ks.length<=3)
  (h:∀(zs:List (Int×Nat)) (h':Heap) (e:Nat),zs.Perm (ks.zip as)->zs.Pairwise (λp q=>p.1<q.1)->Grows s.heap h'->h'.get? s.heap.objs.size=some (gh (zs.map λp=>aC p.2) e)->Q (.ref s.heap.objs.size) { s with heap:=h'}) :
  ae (ag J w) A (call (.builtin "list.sort") [.ref s.heap.objs.size]) (λ_ s'=>Q (.ref s.heap.objs.size) s') E { s with heap:=s.heap.push (gh (as.map aC) 0)}:=by
 have ho:(s.heap.push (gh (as.map aC) 0)).get? s.heap.objs.size=some (bX "list" (as.map aC).toArray 0):=cJ _ rfl;have x':PT (s.heap.push (gh (as.map aC) 0)) as ks:=x.keep λb o _ e _=>aZ _ e;exact pE slot_list_sort ⟨_,ho,rfl⟩ entry_list_sort (Un ho x' nd h3 λzs a1 a2=>⟨_,rfl,?_⟩) (args_list_sort _);obtain⟨e,he⟩:=sortedHeap_at (out:=(zs.map λp=>aC p.2).toArray) ho;exact h zs _ e a1 a2 (λb o q=>?_) he;have rN:=bM q;show(tB _ _ _ _).get? b=_;rw[sortedHeap_old (b9 rN) (by rw[tD];show sJ rN)];show aZ _ q
theorem aoP{a:Nat}{k:Int}{x:V}{t:Tok}(e:h.get? a=some o)(hc:o.cls=.type "tuple")(hd:o.data=.seq #[.int k t,v] n)(r:VR v x):OR J w h a (.tup [.int k,x]):=
 .tup (vs:=[.int k t,v]) ⟨o,e,hc,n,hd⟩ (.cons (.int _ _) (.cons r .nil)) (by show 2<=200000;show⟨"2.200000"⟩)
theorem aiZ{p:Int×V}(h:rD (p::es)):rD es:=λq hq=>h q (.tail _ hq)
def amK(h:Kv kvs es)(ha:rD es):∀{j:Nat}{k:Int}{v:Value},kvs[j]?=some (k,v)->∃i t,v=.int i t/\es[j]?=some (k,.int i):=by
 induction h with
 |nil=>intro j k v e;simp at e
 |cons hv t ih=>
  intro j k v e;cases j with
  |zero=>
   simp at e;obtain⟨rfl,rfl⟩:=e;obtain⟨i,hi⟩:=ha _ (.head _);dsimp only at hi;subst hi;cases hv;show⟨_,_,rfl,rfl⟩
  |succ j=>show ih (aiZ ha) (by simpa using e)
def amW(hk:Kv kvs es)(ha:rD es){lo:bU}(hl:as.length=kvs.length)(g:KdxG (bT J w) kvs lo h as):PT h as (kvs.map (·.1))/\∀(j a:Nat),as[j]?=some a->∃k x,es[j]?=some (k,x)/\OR J w h a (.tup [.int k,x]):=by
 have one:∀(j a:Nat),as[j]?=some a->∃o k t i u n,kvs[j]?=some (k,.int i u)/\es[j]?=some (k,.int i)/\h.get? a=some o/\o.cls=.type "tuple"/\o.data=.seq #[.int k t,.int i u] n:=λj a hj=>by
  obtain⟨key,k,v,e1,e2,e3⟩:=g.pairs j a hj;obtain⟨i,u,rfl,e4⟩:=amK hk ha e1;cases key with
  |int q t=>
   have:q=k:=by simpa [bT,m6] using e2
   subst this;show⟨_,_,_,_,_,_,e1,e4,e3,rfl,rfl⟩
  |_=>show absurd e2 (by simp[bT,m6])
 exact⟨?_,λj a hj=>?_⟩
 ·clear g hk ha;induction as generalizing kvs es with
  |nil=>clear one;cases kvs with
   |nil=>show .nil
   |cons _ _=>cases hl
  |cons a as ih=>
   cases kvs with
   |nil=>cases hl
   |cons p kvs=>
    obtain⟨o,k,t,i,u,n,e1,e2,e3,e4,e5⟩:=one 0 a rfl;simp at e1;subst e1;cases es with
    |nil=>simp at e2
    |cons q es=>
     exact .cons e3 e4 e5 (ih (es:=es) (by simpa using hl) λj b hj=>?_);have:=one (j+1) b (by simpa using hj)
     simpa using this
 ·obtain⟨o,k,t,i,u,n,e1,e2,e3,e4,e5⟩:=one j a hj;show⟨k,_,e2,aoP e3 e4 e5 (.int _ _)⟩
def agO{E:Value->Shared->Prop}{s0:Shared}{r d:Nat}{D2:Nat}(hh:A.handled=none)(x:At J w bz nil Y0 s0 Y s)(e:Y d=some (.cu es D2))(hv:s.heap.IsItemsView r d)(ha:rD es)(nd:(es.map (·.1)).Nodup)(h3:es.length<=3)
  (q:Bx (λps s=>new (.lst ((lJ ps).map (·.2))) Q s) es [] Y):ae (ag J w) A (call (.builtin "sorted") [.ref r]) (GE J w bz Y0 s0 Q) E s:=by
 obtain⟨kvs,hD,hk⟩:=wL (x.2.1.rep _ _ e);obtain⟨ep,B6⟩:=hD.dictAt;have hlen:=hk.len;have gx:kvs.length<=sizeLine:=by rw[cq];show⟨"A.16777216,B.3,A~B",h3,hlen⟩
 exact call_function_entry tu tj tm (tq _) ?_;unfold ft.«sorted»;exact ah (m:=uh "sorted" 1 1 _) (aq ?_);exact ah (kdx_collect (A:=A.in1) (knd:=bT J w) (kvs:=kvs) (ep:=ep) hh hv B6 gx λh' tk as k hl hG=>?_);obtain⟨p1,p2⟩:=amW hk ha hl hG;have x':At J w bz nil Y0 s0 Y { s with heap:=h',toks:=tk}:=x.grow k
 have ndA:as.Nodup:=hG.rise.imp λh=>b9 h;have un:∀a∈as,Y a=none:=λa h=>x.2.1.unset (gf (mz (hG.above a h)));have fr:∀a∈as,s0.heap.get? a=none:=λa h=>by
  cases e:s0.heap.get? a with
  |none=>rfl
  |some o=>
   obtain⟨o',e'⟩:=x.2.2.kp _ _ e;show absurd (bM e') (kF.mpr (mz (hG.above a h)))
 obtain⟨Y',i1,i2,i3⟩:=aig x' (hl.trans hlen) ndA un fr p2 q;exact ah (mI ?_ (by rw[bP,hl];show gx));have D3:(kvs.map (·.1)).Nodup:=by rw[hk.keys];show nd
 exact ah (bY (aI (Uv (s:={ s with heap:=h',toks:=tk}) (Q:=λv s'=>GE J w bz Y0 s0 Q v s') p1 D3 (by rw[bP,hlen];show h3) λ(zs:List (Int×Nat)) h2 e2 z1 z2 z3 z4=>?_) (λ_ s' y=>?_) λ_ _ e=>e))
 ·exact GE.listAt (tk:=tk) i2 (vs:=(zs.map (λp:Int×Nat=>p.2)).map aC) (Ut _) (xs:=(zs.map (λp:Int×Nat=>p.2)).map V.ref) ?_ ?_ (nY h') z3 (n:=e2) ?_
  ·have e3:(([]++(es.map (λp:Int×V=>p.1)).zip (as.map V.ref)).map λp:Int×V=>p.2)=as.map V.ref:=by
    rw[o7,List.map_snd_zip];simp[hl,hlen]
   have e4:(([]++(es.map (λp:Int×V=>p.1)).zip (as.map V.ref)).map λp:Int×V=>p.1)=kvs.map λp:Int×Value=>p.1:=by
    rw[o7,mw,hk.keys];simp[hl,hlen]
   have:=Uu (ps:=[]++(es.map (λp:Int×V=>p.1)).zip (as.map V.ref)) e3 (by rw[e4];show D3) (by rw[e4];show z1) z2;rw[<-this];show i1
  ·rw[bP,bP,z1.length_eq,iZ,bP];show⟨"A.200000,B.3,C~B,A.C",h3,hlen,fe _ _⟩
  ·rw[z4,i5];rfl
 ·show aq ⟨_,rfl,y⟩
def afH{E:Value->Shared->Prop}{s0:Shared}{d D2:Nat}(hh:A.handled=none)(cx:Cx w bz)(x:At J w bz nil Y0 s0 Y s)(e:Y d=some (.cu [] D2))(q:new (.lst []) Q Y):ae (ag J w) A (call (.builtin "sorted") [.ref d]) (GE J w bz Y0 s0 Q) E s:=by
 obtain⟨kvs,hD,hk⟩:=wL (x.2.1.rep _ _ e);cases hk;obtain⟨ep,B6⟩:=hD.dictAt;exact call_function_entry tu tj tm (tq _) ?_;unfold ft.«sorted»;exact ah (m:=uh "sorted" 1 1 _) (aq ?_);exact ah (kdu_collect (A:=A.in1) (kdl_dict (knd:=bT J w) (kvs:=[]) (ep:=ep) (x.2.1.noSys cx e rfl)) hh B6 (fh _) λh' tk acc k hi=>?_);have x':At J w bz nil Y0 s0 Y { s with heap:=h',toks:=tk}:=x.grow k
 have ea:acc.toList=([]:List Nat).map aC:=by
  have:=hi.1;simp at this;simp[this]
 rw[ea];exact ah (mI ?_ (fh _));exact ah (bY (aI (Uv (s:={ s with heap:=h',toks:=tk}) (as:=[]) (ks:=[]) (Q:=λv s'=>GE J w bz Y0 s0 Q v s') .nil o9 (fh _) λzs h2 e2 z1 z2 z3 z4=>?_) (λ_ s' y=>?_) λ_ _ e=>e))
 ·have ez:zs=[]:=List.Perm.eq_nil z1;subst ez;show GE.listAt (tk:=tk) x' (vs:=[]) .nil q (fh _) (nY h') z3 (n:=e2) z4
 ·show aq ⟨_,rfl,y⟩
def ajD{a:E}(ha:SE a):SE (.items a):=by
 intros;intro n c ex aA Q X hw;obtain⟨g,gp,v,ap,ps,pos,rfl,h1,h2,h3⟩:=akE aA;rw[vT];exact ah (DU (v:=.builtin "sorted") c.cx c.st c.stays h1 (by kernel_rfl) (by decide +kernel) (by decide +kernel) ?_);exact kM (P:=λ_=>True) rfl (D1 _) ?_;have main:ae (ag J w) A (gZ (cA pos (bC [.Call (.Attribute v "items" ap) [] [] ps] f.env))) (λvs s1=>True/\ae (ag J w) A (call (.builtin "sorted") ([]++vs)) (GE J w bz Y0 s0 Q) (BE J w bz F f.fl Y0 s0 X) s1) (BE J w bz F f.fl Y0 s0 X) s:=?main
 ·show mU main
 exact i7 (rest:=[]) ?_ rfl;exact method_call (l:=[]) (es:=[]) ha c h2 rfl h3 (by decide) hw λo y Y' s' ho hq c' pl=>?_;exact bV hq ho λd hq=>?_;obtain⟨es,D2,e,q1,q2,q3,q4⟩:=apm hq;obtain⟨kvs,hD,hk⟩:=wL (c'.at_.2.1.rep _ _ e);exact pD hD.typeIs PySem.F.plainAttrs_dict z7 PySem.F.type_dict_items hD.mapOf.noDict ?_;exact callArgs (l:=[]) (KP:=λ_=>True) (X:=X) Ti c' (es:=[]) rfl (Q:=λxs iQ=>xs=[]/\iQ=Y') ⟨rfl,rfl⟩ (D1 _) λvs xs iQ jv hv hq de _=>⟨trivial,?_⟩;obtain⟨rfl,rfl⟩:=hq;cases hv;obtain⟨uQ,vU,Jh⟩:=wL (de.at_.2.1.rep _ _ e);exact call_meetsIn z7 vU.typeIs PySem.F.entry_dict_items (PySem.F.args_dict_items_1 _) (meets_dict_items (bT J w) d (de.at_.2.1.noSys de.cx e rfl)) ⟨⟨_,vU⟩,?_⟩;have a':At J w bz nil Y0 s0 iQ { jv with heap:=jv.heap.push { cls:=qa "dict_items",data:=Data.fields #[aC d]}}:=de.at_.grow (tk:=jv.toks) λb o e=>aZ _ e
 exact mV ⟨trivial,?_⟩;show agO de.rm.handled a' e ⟨_,cJ _ rfl,rfl,rfl⟩ q1 q2 q3 q4
def agm:ja (.type "list") "keys"=pure none:=by rw[tT,tH];kernel_rfl
def jW{E:Value->Shared->Prop}{a:bU}{xs:Array Value}{k:Nat}{Q:Option Value->Shared->Prop}
  (hx:s.heap.get? a=some { cls:=.type "list",data:=.seq xs k}) (hA:A.handled=none) (h:∀h' tk,Grows s.heap h'->Q none { s with heap:=h',toks:=tk}) :
  ae (ag J w) A (getAttr? (.ref a) "keys") Q E s:=by
 obtain⟨hp,g,d,tk,os⟩:=s;have hT:∀tk',(⟨hp,g,d,tk',os⟩:Shared).TypeIs (.ref a) "list":=λ_=>⟨_,hx,rfl⟩;have f1:=sub_AttributeError;have f3:=uz.lookup;have f4:=uz.bind (.ref a);have f5:=am_list_getattr_none;have FT:(["__module__","__name__","__qualname__","__doc__","__annotations__"]:List Str).contains "keys"=false:=by decide +kernel
 have FU:=agm;have gx:(ax "keys").length+100<=sizeLine:=by size_fits
 unfold getAttr? getAttrBy? getAttrBy
 repeat (any_goals (first | assumption | show hT _ | ((with_reducible show ae _ _ (call (kL "list.__getattribute__") _ _) _ _ _);exact pN uz (hT _) am_entry_list_getattribute (PySem.F.args_list_getattribute_2 _ _) (meets_getattribute_miss_list a xs k #[] "keys" _ FU FT gx) ⟨hx,hA,λh' tk' e ju=>?_⟩) | wp_step))
 obtain⟨t',u',he⟩:=ju.there;show ae _ _ (zF _ _ _ _ _ _ _) _ _ _;unfold zF
 repeat (any_goals (first | assumption | wp_step))
 show h _ _ ju.keeps
theorem ae4:entryFor table "dict.update.loop"=some ft.«dict.update.loop»:=entryFor_of_fast (by kernel_rfl)
def Mk:plainId "dict.update.loop"=true:=by decide +kernel
class inductive PV(h:Heap):List Value->List (Int×V)->Prop
 |nil:PV h [] []
 |cons {a:Nat}{o:Obj}{i j:Int}{t u:Tok}{n:Nat}{vs:List Value}{ds:List (Int×V)}:h.get? a=some o->o.cls=.type "tuple"->o.data=.seq #[.int i t,.int j u] n->PV h vs ds->PV h (.ref a::vs) ((i,.int j)::ds)
def PV.len(x:PV h vs ds):vs.length=ds.length:=by
 induction x with
 |nil=>rfl
 |cons _ _ _ _ ih=>simp[ih]
def PV.keep(x:PV h vs ds)(k:∀b o,h.get? b=some o->o.cls=.type "tuple"->h'.get? b=some o):PV h' vs ds:=by
 induction x with
 |nil=>show .nil
 |cons a b c _ ih=>show .cons (k _ _ a b) b c ih
def ahz(kvs:List (Int×Value))(k:Int)(v:Value):(kJ kvs k v).length<=kvs.length+1:=by
 unfold kJ;split
 ·rw[bP];show⟨"A.A+1"⟩
 ·rw[cR];simp
theorem Uw{R:mR->Shared->Prop}{d it l:Nat}(hh:A.handled=none)(B7:d≠it):∀(ds:List (Int×V)) (vs:List Value) (i:Nat) (q:Int) (s:Shared) (kvs:List (Int×Value)) (es:List (Int×V)),
  us.drop i=vs->PV s.heap vs ds->s.heap.IsListIter it l i->s.heap.IsList l us.toArray->s.heap.DictOf (bT J w) d kvs->Kv kvs es->kvs.length+ds.length<=1000 ->
  (∀h' tk uQ,h'.DictOf (bT J w) d uQ->Kv uQ (ds.foldl (λd p=>dup d p.1 p.2) es)->(∀b o,b≠d->b≠it->s.heap.get? b=some o->h'.get? b=some o)->R (.ok (.ret .none)) { s with heap:=h',toks:=tk}) ->
  cW (ag J w) A (.builtin "dict.update.loop" ⟨[.ref d,.ref it,bZ q,.none],[]⟩) R s
 |ds,vs,i,q,s,kvs,es,hd,x,hit,hl,hm,hk,hb,h=>by
  exact codeAny_builtin ae4 ?_;rw[Around.under_plainId Mk _];show ae _ A.in1 (mS (.ref it) >>= _) _ _ s;obtain⟨oi,Ml,hci,FV⟩:=id hit;obtain⟨od,es0,ep0,vV,hxd,og,_⟩:=id hm;obtain⟨ol,Mm,iR,nl,FW⟩:=id hl;have hli:l≠it:=λq=>by clear h;subst q;nomatch Mm,Ml;nomatch FW,FV
  have hld:l≠d:=λq=>by clear h hm;subst q;nomatch Mm,vV;nomatch FW,og
  cases x with
  |nil=>
   have hx:us.toArray[i]?=none:=by
    rw[yw];have:us.length<=i:=si.mp hd;show di this
   exact ah (zp hh hit hl hx λh' hs=>?_);show ae _ A.in1 (Builtin.Dict.addKeywords d [] >>= _) _ _ _;exact ah (aq ?_);exact aq ?_;exact h h' s.toks kvs ?_ hk λb o _ D4 e=>hs b o D4 e;show LK hm λo e=>hs d o B7 e
  |cons e1 e2 e3 xt=>
   rename_i a o k j t u n vs ds;have hx:us.toArray[i]?=some (.ref a):=by
    rw[yw];have:=congrArg (λl:List Value=>l[0]?) hd
    simpa using this
   have hai:a≠it:=λq=>by clear h;subst q;nomatch e1,Ml;nomatch e3,FV
   exact ah (zk hit hl hx λh' FX hs=>?_);exact ah (bY ?_);have Ux:h'.get? a=some o:=(hs.2 a hai).trans e1;exact ah (wpAny_tryCatch ?_);unfold Builtin.Dict.pairItems;exact ah (pL (T:="tuple") ⟨o,Ux,e2⟩ ?_);rw[if_pos (by decide)];exact ah (wpAny_seqItems Ux e3 (aq ?_));show ae _ A.in1 (je [.int k t,.int j u] (dictSet d (.int k t) (.int j u))) _ _ _;exact bY (wpAny_dictSet_pairs (knd:=bT J w) (k:=k) (kvs:=kvs) (by simp[bT,m6]) (LK hm λo e=>(hs.2 d B7).trans e) (λh2 Ji wW=>?_) (by rw[cq];show⟨"A.16777216,A+(B+1).1000",hb⟩));exact aq ⟨plainId_quiet Mk _,?_⟩;have nd:(kvs.map (·.1)).Nodup:=let ⟨_,_,_,_,_,_,_,_,n⟩:=hm;n;have kp:∀b o,b≠d->b≠it->s.heap.get? b=some o->h2.get? b=some o:=λb o Jj D4 e=>(wW.2 b Jj).trans ((hs.2 b D4).trans e);have tup:∀b o,s.heap.get? b=some o->o.cls=.type "tuple"->b≠d/\b≠it:=λb o e hc=>by
    exact⟨λq=>?_,λq=>?_⟩
    ·clear h hm Ji wW kp;subst q;nomatch vV,e;rewrite [hxd.1] at hc;simp at hc
    ·clear h FX kp;subst q;nomatch Ml,e;rewrite [hci] at hc;simp at hc
   exact Uw hh B7 ds vs (i+1) (q+1) _ (kJ kvs k (.int j u)) (dup es k (.int j)) ?_ (xt.keep λb o e hc=>kp b o (tup b o e hc).1 (tup b o e hc).2 e) ?_ ⟨ol,kp l ol hld hli Mm,iR,nl,FW⟩ Ji (hk.put nd (.int _ _)) ?_ λh3 tk uQ a1 a2 a3=>?_
   ·rw[<-sG,hd];rfl
   ·obtain⟨o2,p1,p2,p3⟩:=FX;show⟨o2,(wW.2 it (aj B7)).trans p1,p2,p3⟩
   ·have:=ahz kvs k (.int j u);simp at hb;show⟨"A+B.1000,C+(B+1).1000,A.C+1",hb,this⟩
   ·show h h3 tk uQ a1 a2 λb o Jj D4 e=>a3 b o Jj D4 (kp b o Jj D4 e)
def aek{E:Value->Shared->Prop}{l:Nat}{Q:Value->Shared->Prop}(hh:A.handled=none)(hl:s.heap.get? l=some (gh us n))(x:PV s.heap us ds)(hb:ds.length<=1000)
  (h:∀h' tk kvs,Grows s.heap h'->h'.DictOf (bT J w) s.heap.objs.size kvs->Kv kvs (Iq ds)->Q (.ref s.heap.objs.size) { s with heap:=h',toks:=tk}) :
  ae (ag J w) A (call (.type "dict") [.ref l]) Q E s:=by
 exact callType_codes (Q₁:=λobj s1=>obj=.ref s.heap.objs.size/\s1={ s with heap:=s.heap.push { cls:=.type "dict",data:=.dict #[]}}) PySem.F.kt_called_dict (PySem.F.kt_typeCall_dict_1 _) PySem.F.entry_dict_init (kt_code_dict_new _ ⟨rfl,rfl⟩) ?_
 rintro obj s1 ⟨rfl,rfl⟩;have qT:(s.heap.push { cls:=.type "dict",data:=.dict #[]}).DictOf (bT J w) s.heap.objs.size []:=Heap.DictOf.new s.heap
 have oh:(s.heap.push { cls:=.type "dict",data:=.dict #[]}).get? l=some (gh us n):=aZ _ hl
 exact⟨qT.typeIs,PySem.F.args_dict_init_2 _ _,?_⟩;unfold ft.«dict.__init__»;exact ah ?_;unfold Builtin.Dict.selfAndRest;exact ah (wpAny_notOrdered_dict qT.typeIs ?_);show ae _ _ (pure (s.heap.objs.size,[aC l])) _ _ _;exact aq ?_;show ae _ _ (Builtin.Dict.updateFrom "dict.__init__" s.heap.objs.size (.ref l) [] .none) _ _ _;unfold Builtin.Dict.updateFrom;exact ah (pL (T:="list") ⟨_,oh,rfl⟩ ?_);rw[if_pos (by decide)];exact ah (jW oh hh λh1 tk1 k1=>?_);have Jk:h1.get? l=some (gh us n):=k1 _ _ oh;rw[if_pos (by rfl)];exact ah (wpAny_rule ?_);exact ah (zJ (dZ Jk) ?_);exact aq ⟨plainId_quiet Mk _,?_⟩;have g:∀b o,s.heap.get? b=some o->(h1.push { cls:=.type "list_iterator",data:=.fields #[.ref l,.int 0 0]}).get? b=some o:=λb o e=>aZ _ (k1 _ _ (aZ _ e))
 have jX:s.heap.objs.size<h1.objs.size:=by
  obtain⟨o,_,_,e,_⟩:=qT;show bM (k1 _ _ e)
 exact Uw (A:=A.in1) (us:=us) hh (b9 jX) ds us 0 0 _ [] [] rfl (x.keep λb o e _=>g b o e) ⟨_,cJ _ rfl,rfl,rfl⟩ (dZ (IsL.push Jk _)) (LK qT λo e=>aZ _ (k1 _ _ e)) .nil (by simpa using hb) λh2 vW kvs a1 a2 a3=>?_;show⟨rfl,h h2 vW kvs (λb o e=>a3 b o (b9 (bM e)) (b9 (Nat.lt_trans (bM e) jX)) (g b o e)) a1 a2⟩
def aoi(R:∀a o,Y a=some o->OR J w h a o){d:List (Int×V)}(r:bD us xs)(e:DO Y xs d):PV h us d:=by
 induction e generalizing us with
 |nil=>cases r;show .nil
 |cons e1 _ ih=>
  obtain _ | ⟨hv,r⟩:=r;rw[hv.wJ];obtain⟨ws,⟨o,ho,hc,n,hdt⟩,q⟩:=uM (R _ _ e1);obtain⟨t,u,rfl⟩:=q.two;show .cons ho hc hdt (ih r)
def amh{E:Value->Shared->Prop}{s0:Shared}(hh:A.handled=none)(cx:Cx w bz)(x:At J w bz nil Y0 s0 Y s)(r:bD vs xs)(h:bi .dict xs Q Y) :
  ae (ag J w) A (call (.type "dict") vs) (GE J w bz Y0 s0 Q) E s:=by
 exact gi h r λ_ _ hv h=>bV h hv λa h=>?_;rcases II h with⟨es,D2,e,h'⟩ | ⟨ys,e,d,h1,h2,h3⟩
 ·obtain⟨kvs,hD,hk⟩:=wL (x.2.1.rep _ _ e);exact kt_call_dict (x.2.1.noSys cx e rfl) hD (by rw[hk.len,cq];show⟨"A.16777216,A>1000",h'.1⟩) λh₁ vU k=>?_;obtain⟨gy,vU⟩:=vU.dictAt;show⟨_,_,.ref _,h'.2 gy _ x.2.1.DS,x.add (tk:=s.toks) (nY _) rfl (λb o e=>(k.2 b (b9 (bM e))).trans (aZ _ e)) (.cu vU hk)⟩
 ·obtain⟨us,n,g,q⟩:=iC (x.2.1.rep _ _ e);exact aek hh g (aoi x.2.1.rep q h1) ⟨"A.1000,A>1000",h2⟩ λh₁ tk kvs k vU hk=>?_;obtain⟨gy,vU⟩:=vU.dictAt;show⟨_,_,.ref _,h3 gy _ x.2.1.DS,x.add (tk:=tk) (nY _) rfl k (.cu vU hk)⟩
def aic{E:Value->Shared->Prop}{s0:Shared}(hh:A.handled=none)(cx:Cx w bz)(x:At J w bz nil Y0 s0 Y s)(r:bD vs xs)(h:bi .sorted xs Q Y) :
  ae (ag J w) A (call (.builtin "sorted") vs) (GE J w bz Y0 s0 Q) E s:=by
 exact gi h r λ_ _ hv h=>bV h hv λa h=>?_;rcases II h with⟨es,D2,e,h'⟩ | ⟨ys,e,h'⟩
 ·obtain⟨rfl,h'⟩:=ao4 h';show afH hh cx x e h'
 ·rcases h' with⟨l,rfl,h1,h2⟩ | ⟨ps,h1,h2,h3,h4⟩
  ·show ae1 x e h1 h2
  ·show aeA x e h1 h2 h3 h4
def Uy:Bi->Value
 | .len=>.builtin "len"
 | .lst=>.type "list"
 | .dict=>.type "dict"
 | .sorted=>.builtin "sorted"
 | .abs=>.builtin "abs"
 | .min=>.builtin "min"
 | .max=>.builtin "max"
def akz(b:Bi):ub (ax (Ff b))=some (Uy b):=by cases b<;>kernel_rfl
def Uz(b:Bi):(ax (Ff b) == ("__name__":Str))=false/\(ax (Ff b) == ("__debug__":Str))=false:=by cases b<;>decide +kernel
def alZ(b:Bi):∀h:Heap,True->∃k,(k=jj\/k=ji\/k=jh)/\jm M h (jb (Uy b)) k:=by cases b<;>first | show D1 _ | show Ui _
theorem apq{b:Bi}{ex:Expr}(h:aW sc (.bi b l) ex=true):∃g gp es pos,ex=.Call (.Name g gp) es [] pos/\qe sc g (Ff b)=true/\d9 sc l es=true:=
 fE h λ_ es _ q h=>dy h λg p h=>ie h λa c d=>bq c ⟨g,p,es,q,rfl,a,d⟩
def aoS{b:Bi}(hl:nH l):SE (.bi b l):=by
 intros;intro n c ex aA Q X hw;obtain⟨g,gp,es,pos,rfl,h1,h2⟩:=apq aA;rw[vT];exact ah (DU c.cx c.st c.stays h1 (akz b) (Uz b).1 (Uz b).2 ?_);exact callArgs (KP:=λ_=>True) hl c h2 hw (alZ b) λvs xs Y' s' hv hq c' _=>⟨trivial,?_⟩;clear h1 aA hw;cases b with
 |len=>show ant c'.at_ hv hq
 |lst=>show am1 c'.at_ hv hq
 |dict=>show amh c'.rm.handled c'.cx c'.at_ hv hq
 |sorted=>show aic c'.rm.handled c'.cx c'.at_ hv hq
 |abs=>show aoq c'.at_ hv hq
 |min=>show amM c'.rm.handled c'.at_ hv hq
 |max=>show am4 c'.rm.handled c'.at_ hv hq
theorem aor{a:E}{ex:Expr}(h:aW sc (.Bt a) ex=true):∃g gp y q p pos,ex=.Call (.Name g gp) [y,.Name q p] [] pos/\qe sc g "isinstance"=true/\qe sc q "bool"=true/\ns 22 y=true/\aW sc a y=true:=
 fE h λ_ _ _ pos h=>dy h λg gp h=>jq h λy _ h=>dy h λq p h=>BL h λa b c d e=>bq b ⟨g,gp,y,q,p,pos,rfl,a,c,d,e⟩
def anG{a:E}(ha:SE a):SE (.Bt a):=by
 intros;intro n c ex aA Q X hw;obtain⟨g,gp,y,q,p,pos,rfl,h1,h2,h3,h4⟩:=aor aA;rw[vT];exact ah (DU (v:=.builtin "isinstance") c.cx c.st c.stays h1 (by kernel_rfl) (by decide +kernel) (by decide +kernel) ?_);have main:ae (ag J w) A (gZ (cA pos (bC ([y]++[.Name q p]) f.env))) (λvs s1=>True/\ae (ag J w) A (call (.builtin "isinstance") ([]++vs)) (GE J w bz Y0 s0 Q) (BE J w bz F f.fl Y0 s0 X) s1) (BE J w bz F f.fl Y0 s0 X) s:=by
  exact Uh (l:=[a]) (Q:=λvs s=>gu vs λv=>d8 v λ_=>Q (.bool false) s) (λenv=>rfl) (λe he=>by rw[ku.mp he];show ha) c (by show(ns 22 y && aW sc a y && true)=true;rw[h3,h4];rfl) hw λvs xs Y' s' hv hq c'=>?_;exact DU (v:=.type "bool") c'.cx c'.st c'.stays h2 (by kernel_rfl) (by decide +kernel) (by decide +kernel) ⟨trivial,?_⟩;show ajg c'.at_ hv hq
 have e:bC ([y]++[.Name q p]) f.env=(false,eval y f.env)::bC [.Name q p] f.env:=Ai h3
 rewrite [e] at main
 exact kM (P:=λ_=>True) (args:=cA pos (bC ([y]++[.Name q p]) f.env)) (keywords:=[]) (by rw[e];rfl) (D1 _) ?_;rw[e];show mU main
@[elab_as_elim] theorem Mq{p}{P:jf->Prop}(h:wD p .eq=true)(k:P .Eq):P p:=of_decide_eq_true h ▸ k
theorem aif{a:E}{ex:Expr}(h:aW sc (.isTrue a) ex=true):∃g gp v cp k p pos,ex=.Compare (.Call (.Name g gp) [v] [] cp) [.Eq] [.Constant (.str "True") k p] pos/\qe sc g "repr"=true/\aW sc a v=true/\ns 22 v=true:=
 BF h λ_ _ _ pos h=>dv h λ_ h=>dv h λ_ h=>fE h λ_ _ _ cp h=>dy h λg gp h=>dv h λv h=>jS h λ_ k p h=>BJ h λ_ h=>BM h λa b c d e f=>jU c (bq d (Mq e ⟨g,gp,v,cp,k,p,pos,rfl,a,b,f⟩))
def alD:((dA 125).all λk=>!(reprText (nm k) == ("True":Str)) && Nat.ble (reprText (nm k)).length 1000)=true:=by decide +kernel
def ajf{a:E}(ha:SE a):SE (.isTrue a):=by
 intros;intro n c ex aA Q X hw;obtain⟨g,gp,v,cp,k,p,pos,rfl,h1,h2,h3⟩:=aif aA;have cG:wE W a m (λv s=>match v with
  | .bool b=>Q (.bool b) s
  | .str k=>k<125/\Q (.bool false) s
  |_=>False) X Y:=hw
 exact wpAny_Compare1 ?_ rfl;rw[vT];exact ah (DU (v:=.builtin "repr") c.cx c.st c.stays h1 (by kernel_rfl) (by decide +kernel) (by decide +kernel) ?_);have hz:bC [v] f.env=[(false,eval v f.env)]:=by
  show Ai h3
 exact kM (P:=λ_=>True) (args:=cA cp (bC [v] f.env)) (keywords:=[]) (by rw[hz];rfl) (D1 _) ?_;have main:ae (ag J w) A (gZ (cA cp (bC [v] f.env))) (λvs s1=>True/\ae (ag J w) A (call (.builtin "repr") ([]++vs)) (λa s1=>ae (ag J w) A (eval (.Constant (.str "True") k p) f.env) (λb s2=>ae (ag J w) A (gY .Eq a b) (GE J w bz Y0 s0 Q) (BE J w bz F f.fl Y0 s0 X) s2) (BE J w bz F f.fl Y0 s0 X) s1) (BE J w bz F f.fl Y0 s0 X) s1) (BE J w bz F f.fl Y0 s0 X) s:=by
  exact i7 (rest:=[]) (ha.then c h2 cG λv x Y' s' hv hq c'=>?_) hz;exact mV ⟨trivial,?_⟩;cases hv<;>first | show hq.elim | skip
  ·rename_i b;exact PySem.P.repr_of_bool (tK (zf ⟨.bool b,Y',?_,hq,c'.at_.toks⟩));have e:((if b then ("True":Str) else "False") == ("True":Str))=b:=by clear hq;cases b<;>decide +kernel
   rw[e];show .bool b
  ·rename_i q t;have z:=aY.mp alD q (gW.mpr hq.1)
   rewrite [bx] at z
   exact PySem.P.repr_of_str (tK (zf ⟨.bool false,Y',?_,hq.2,c'.at_.toks⟩)) ?_
   ·have e:(reprText (nm q) == ("True":Str))=false:=by simpa using z.1
    rw[e];show .bool false
   ·have:=dT z.2;rw[cq];show⟨"A.16777216,A.1000",this⟩
 rw[hz] at main ⊢;show mU main
def At.Jl{s0:Shared}(x:At J w bz own Y0 s0 Y s)(hL:s.heap.get? L=some oL)(nm:¬ bu Y s.heap L)(hs:s0.heap.get? L=none)(nb:bz.get? L=none)(nr:Y L=none)(nR:¬ Aj oL)
  (k:dY L s.heap h'):At J w bz own Y0 s0 Y { s with heap:=h',toks:=tk}/\¬ bu Y h' L:=by
 obtain⟨⟨h,t,e⟩,I,S⟩:=x;have ne:∀b o,Y b=some o->b≠L:=λb o e q=>by subst q;nomatch nr,e
 have da:∀b d,dh Y h' b d↔dh Y s.heap b d:=by
  intro b d;constructor
  ·rintro⟨c,fs,ox,e,hx,hd⟩;obtain⟨ob,e'⟩:=(I.rep b _ e).here;have:=k b ob (ne _ _ e) e'
   nomatch hx,this
   show⟨c,fs,ox,e,e',hd⟩
  ·rintro⟨c,fs,ox,e,hx,hd⟩;show⟨c,fs,ox,e,k b ox (ne _ _ e) hx,hd⟩
 have mu:∀b,bu Y h' b↔bu Y s.heap b:=λb=>by unfold bu;simp only[da]
 exact⟨⟨⟨h',tk,by rw[e]⟩,⟨λb ob e=>?_,λb q e=>?_,λb ob e m=>I.old b ob e ((mu b).mp m),λb d y=>I.sep b d ((da _ _).mp y),λb c d y z=>I.inj b c d ((da _ _).mp y) ((da _ _).mp z),λt ht=>tab_keep (I.tab t ht) ?_ λb ob e r=>k b ob (λq=>by subst q;nomatch hL,e;show nR r) e⟩,⟨λb o e=>let ⟨o',e'⟩:=S.kp b o e;⟨o',k b o' (λq=>by subst q;nomatch hs,e) e'⟩,λb ob e n=>?_,S.nw⟩⟩,λm=>nm ((mu L).mp m)⟩
 ·show k b ob (λq=>by subst q;nomatch nb,e) (I.stays b ob e)
 ·exact(I.rep b q e).keeps (λob z=>k b ob (ne _ _ e) z) λob d od z zd zo hq=>?_;obtain⟨c,fs,rfl⟩:=hq;show k d od (λq=>nm (by clear hL hs nb ne nr;subst q;show .inr (.inl ⟨b,c,fs,ob,e,z,zd⟩))) zo
 ·obtain⟨ps,e1,_⟩:=I.tab t ht;rw[e1];show k _ _ (λq=>nm (by rw[<-q];show .inr (.inr ⟨t,ht,rfl⟩))) e1
 ·obtain⟨o1,e₁,n1,u⟩:=S.st b ob e n;show⟨o1,k b o1 (λq=>by subst q;nomatch hs,e) e₁,λm=>n1 ((mu b).mp m),u⟩
def ahB:List String:=["enumerate","zip","dict_itemiterator","dict_reverseitemiterator","odict_iterator","itertools.zip_longest","itertools.pairwise"]
structure Aw(J:Program)(w:aK)(bz:Heap)(I:Nat)(xs:List V)(G:So->Prop)(St:Nat->Obj->Prop):Prop where
 small:xs.length<=300000
 quiet:∀i o,St i o->(∃n,o.cls=.type n/\ahB.contains n=false)/\¬ Aj o/\∃vs,o.data=.fields vs
 self:∀{A:bp}{E:Value->Shared->Prop}{s:Shared}{i:Nat}{o:Obj}{Q:Value->Shared->Prop},s.heap.get? I=some o->St i o->Q (.ref I) s->ae (ag J w) A (pyIter (.ref I)) Q E s
 next:∀{A:bp}{E:Value->Shared->Prop}{own:Nat->Prop}{Y0 Y:So}{s0 s:Shared}{i:Nat}{o:Obj}{x:V},A.handled=none->At J w bz own Y0 s0 Y s->G Y->s.heap.get? I=some o->St i o->xs[i]?=some x->∀{Q:Option Value->Shared->Prop},
  (∀v o' h' tk,VR v x->dY I s.heap h'->h'.get? I=some o'->St (i+1) o'->Q (some v) { s with heap:=h',toks:=tk})->ae (ag J w) A (mS (.ref I)) Q E s
 done:∀{A:bp}{E:Value->Shared->Prop}{own:Nat->Prop}{Y0 Y:So}{s0 s:Shared}{i:Nat}{o:Obj},A.handled=none->At J w bz own Y0 s0 Y s->G Y->s.heap.get? I=some o->St i o->xs[i]?=none->∀{Q:Option Value->Shared->Prop},
  (∀h',dY I s.heap h'->Q none { s with heap:=h'})->ae (ag J w) A (mS (.ref I)) Q E s
theorem aj2{I a:Nat}(B8:xs.length<=200000):Aw J w bz I xs (λY=>Y a=some (.lst xs)) (λi o=>o.cls=.type "list_iterator"/\o.data=.fields #[.ref a,.int i 0]) where
 small:=⟨"A.300000,A.200000",B8⟩
 quiet:=λi o h=>⟨⟨_,h.1,by decide⟩,λzz=>by obtain⟨vs,q,t,e1,e2⟩:=zz;nomatch h.2,e1;simp at e2,_,h.2⟩
 self:=λho st q=>wpAny_pyIter_listiter ⟨_,ho,st.1,st.2⟩ q
 next:=by
  intro A E own Y0 Y s0 s i o x hh at_ g ho st hx Q k;obtain⟨us,n,e,q⟩:=iC (at_.2.1.rep _ _ g);obtain⟨v,h1,h2⟩:=q.get hx;exact zk ⟨o,ho,st.1,st.2⟩ (dZ e) (x:=v) (by simpa using h1) λh' hit hs=>?_;obtain⟨o',p1,p2,p3⟩:=hit;show k v o' h' s.toks h2 hs.extBut p1 ⟨p2,p3⟩
 done:=by
  intro A E own Y0 Y s0 s i o hh at_ g ho st hx Q k;obtain⟨us,n,e,q⟩:=iC (at_.2.1.rep _ _ g);exact zp hh ⟨o,ho,st.1,st.2⟩ (dZ e) ?_ λh' hs=>k h' hs;have:=q.len;simp at hx ⊢;show⟨"A.B,A~C,C.B",this,hx⟩
def aot(h:Kv kvs es):∀{i:Nat}{k:Int},(es.map λp=>p.1)[i]?=some k->∃v,kvs[i]?=some (k,v):=by
 induction h with
 |nil=>intro i k e;simp at e
 |cons hv t ih=>
  intro i k e;cases i with
  |zero=>simp at e;subst e;show⟨_,rfl⟩
  |succ i=>show ih (by simpa using e)
theorem akM{I d:Nat}(hn:n=es.length)(B8:es.length<1000)(cx:Cx w bz):Aw J w bz I (es.map λp=>.int p.1) (λY=>Y d=some (.cu es ep)) (λi o=>o.cls=.type "dict_keyiterator"/\o.data=.fields #[.ref d,.int i 0,.int n 0,.int ep 0]) where
 small:=by rw[bP];show⟨"A.300000,A>1000",B8⟩
 quiet:=λi o h=>⟨⟨_,h.1,by decide⟩,λzz=>by obtain⟨vs,q,t,e1,e2⟩:=zz;nomatch h.2,e1;simp at e2,_,h.2⟩
 self:=λho st q=>wpAny_pyIter_keyiter ⟨_,ho,st.1,st.2⟩ q
 next:=by
  intro A E own Y0 Y s0 s i o x hh at_ g ho st hx Q k;obtain⟨kvs,e,q⟩:=IY (at_.2.1.rep _ _ g);have hl:n=kvs.length:=hn.trans q.len.symm;subst hl
  rewrite [mq] at hx
  cases hp:es[i]? with
  |none=>nomatch hp,hx
  |some p=>
   nomatch hp,hx
   obtain⟨v,hv⟩:=aot q (i:=i) (k:=p.1) (by rw[mq,hp];rfl);exact wpAny_pyNext_dict_item ⟨o,ho,st.1,st.2⟩ e hv λkey h' hk hit hs=>?_;obtain⟨o',p1,p2,p3⟩:=hit;cases key with
   |int j t=>
    have:j=p.1:=by simpa [bT,m6] using hk
    subst this;show k _ o' h' s.toks (.int _ _) hs.extBut p1 ⟨p2,p3⟩
   |_=>show absurd hk (by simp[bT,m6])
 done:=by
  intro A E own Y0 Y s0 s i o hh at_ g ho st hx Q k;obtain⟨kvs,e,q⟩:=IY (at_.2.1.rep _ _ g);have hl:n=kvs.length:=hn.trans q.len.symm;subst hl;exact wpAny_pyNext_dict_end hh ⟨o,ho,st.1,st.2⟩ e ?_ λh' hs=>k h' hs;simp at hx ⊢;show⟨"A.B,A~C,C.B",hn,hx⟩
theorem akg{I:Nat}{a b:Int}(B8:(b-a).toNat<=300000):Aw J w bz I (rE a b) (λ_=>True) (λi o=>o={ cls:=.type "range_iterator",data:=.fields #[bZ (a+i),bZ ((b-a).toNat-i),bZ 1]}) where
 small:=by unfold rE;rw[bP,List.length_range];show B8
 quiet:=λi o h=>by
  subst h;show⟨⟨_,rfl,by decide⟩,λzz=>by obtain⟨vs,q,t,e1,e2⟩:=zz;cases e1;simp[bZ] at e2,_,rfl⟩
 self:=λho st q=>by subst st;show wpAny_pyIter_rangeiter ho q
 next:=by
  intro A E own Y0 Y s0 s i o x hh at_ g ho st hx Q k;subst st;have hi:i<(b-a).toNat/\x=.int (a+i):=by
   unfold rE at hx
   rewrite [mq] at hx
   by_cases q:i<(b-a).toNat
   ·rewrite [List.getElem?_range q] at hx;clear k;cases hx;show⟨q,rfl⟩
   ·nomatch di (by simp;show r5.mp (kF.mp q)),hx
  obtain⟨hi,rfl⟩:=hi;exact wpAny_pyNext_range_item (left:=(b-a).toNat-i) ho ⟨"0<'A-'B,B>A",hi⟩ λh' hit hs=>?_;exact k _ _ h' _ (.int _ _) hs.extBut hit ?_;have e1:a+(i:Int)+1=a+((i+1:Nat):Int):=⟨"a+'A+1=a+'(A+1)"⟩;have e2:((b-a).toNat:Int)-i-1=(b-a).toNat-((i+1:Nat):Int):=⟨"'A-'B-1='A-'(B+1)"⟩;rw[e1,e2]
 done:=by
  intro A E own Y0 Y s0 s i o hh at_ g ho st hx Q k;subst st;exact wpAny_pyNext_range_end hh ho ?_ λh' hs=>k h' hs;unfold rE at hx;simp at hx;show Int.sub_nonpos_of_le (dP.mpr (r5.mpr hx))
def FY(e:E):Prop:=∀{J:Program}{w:aK}{bz:Heap}{F:dw}{W:Wo}{A:bp}{f:Act}{sc:Scope}{m:Env}{Y0:So}{s0:Shared}{Y:So}{s:Shared}{n:Nat},Cn J w bz F W A f sc m Y0 s0 Y s n->∀{ex:Expr},aW sc e ex=true->∀{K:List V->(So->Prop)->So->Prop}{X:Nat->So->Prop},vM W e m (wE W e m) K X Y->∀{P:Value->Shared->Prop},
 (∀I xs G St o Y' s',Aw J w bz I xs G St->s'.heap.get? I=some o->St 0 o->K xs G Y'->Cn J w bz F W A f sc m Y0 s0 Y' s' n->s.heap.get? I=none->¬ bu Y' s'.heap I->Y' I=none->P (.ref I) s') ->
 ae (ag J w) A (eval ex f.env) (λv s1=>ae (ag J w) A (pyIter v) P (BE J w bz F f.fl Y0 s0 X) s1) (BE J w bz F f.fl Y0 s0 X) s
def Mr{F:dw}{f:Act}{s0:Shared}(c:Cn J w bz F W A f sc m Y0 s0 Y s n)(hf:o.isFreed=false):(s.heap.push o).get? s.heap.objs.size=some o/\Cn J w bz F W A f sc m Y0 s0 Y { s with heap:=s.heap.push o} n/\¬ bu Y (s.heap.push o) s.heap.objs.size/\Y s.heap.objs.size=none:=by
 have I:=c.at_.2.1;have g:Grows s.heap (s.heap.push o):=λb o' e=>aZ _ e;have a:At J w bz nil Y s Y { s with heap:=s.heap.push o}:=(At.refl I).grow (tk:=s.toks) g
 show⟨cJ _ hf,c.go a,λq=>DY I (λb o' e=>⟨o',g b o' e,λ_ _ _=>rfl⟩) (nY _) q,I.DS⟩
def UA{e:E}(he:SE e)(hb:∀W m K X Y,vM W e m (wE W e m) K X Y=wE W e m (vL K) X Y):FY e:=by
 intros;intro n c ex aA K X hw P h
 rewrite [hb] at hw
 exact aI (he c.here aA hw) (λv s' zz=>?_) λ_ _ z=>z.from c.at_;obtain⟨x,Y',h1,h2,h3⟩:=zz;have c':=c.go h3;have Ax:s.heap.get? s'.heap.objs.size=none:=by
  cases e:s.heap.get? s'.heap.objs.size with
  |none=>rfl
  |some o=>
   obtain⟨o',e'⟩:=h3.2.2.kp _ o e;show absurd (bM e') (kC _)
 exact bV h2 h1 λa h2=>?_;rcases (II h2).symm with⟨xs,e,h2⟩ | ⟨es,ep,e,h2⟩
 ·obtain⟨us,k,g,q⟩:=iC (c'.at_.2.1.rep _ _ e);obtain⟨n1,n2,n3,n4⟩:=Mr c' (o:={ cls:=.type "list_iterator",data:=.fields #[.ref a,.int 0 0]}) rfl
  show zJ (dZ g) (h _ _ _ _ _ _ _ (aj2 (adm (c'.at_.2.1.rep _ _ e))) n1 ⟨rfl,rfl⟩ h2 n2 Ax n3 n4)
 ·obtain⟨kvs,g,q⟩:=IY (c'.at_.2.1.rep _ _ e);obtain⟨n1,n2,n3,n4⟩:=Mr c' (o:={ cls:=.type "dict_keyiterator",data:=.fields #[.ref a,.int 0 0,.int kvs.length 0,.int ep 0]}) rfl
  show wpAny_pyIter_dict (c'.at_.2.1.noSys c'.cx e rfl) g (h _ _ _ _ _ _ _ (akM q.len h2.1 c'.cx) n1 ⟨rfl,rfl⟩ h2.2 n2 Ax n3 n4)
theorem anv{ex:Expr}(h:aW sc (.oG l) ex=true):∃g gp es pos,ex=.Call (.Name g gp) es [] pos/\qe sc g "range"=true/\d9 sc l es=true:=
 fE h λ_ es _ q h=>dy h λx p h=>ie h λa b c=>bq c ⟨x,p,es,q,rfl,a,b⟩
def ajI(hl:nH l):FY (.oG l):=by
 intros;intro n c ex aA K X hw P h;obtain⟨g,gp,es,pos,rfl,h1,h2⟩:=anv aA;have cG:wEs W l m (λvs s=>Q0 vs λa b=>(-big<=a/\a<big/\-big<=b/\b<big)/\K (rE a b) (λ_=>True) s) X Y:=hw;rw[vT];exact ah (DU (v:=.type "range") c.cx c.st c.stays h1 (by kernel_rfl) (by decide +kernel) (by decide +kernel) ?_);exact callArgs (KP:=λ_=>True) hl c h2 cG (Ui _) λvs xs Y' s' hv hq c' a=>⟨trivial,?_⟩;have fin:∀(i j:Int) (t u v:Tok) (tk:Nat),(-big<=i/\i<big/\-big<=j/\j<big)/\K (rE i j) (λ_=>True) Y'->ae (ag J w) A (pyIter (.ref s'.heap.objs.size)) P (BE J w bz F f.fl Y0 s0 X) { s' with heap:=s'.heap.push { cls:=.type "range",data:=.fields #[.int i t,.int j u,.int 1 v]},toks:=tk}:=λi j t u v tk hh=>by
  obtain⟨⟨b1,b2,b3,b4⟩,hk⟩:=hh;have UB:-100000<=i:=b1;have b2':i<100000:=b2;have Jb:-100000<=j:=b3;have UC:j<100000:=b4;have c1:Cn J w bz F W A f sc m Y0 s0 Y' { s' with heap:=s'.heap.push { cls:=.type "range",data:=.fields #[.int i t,.int j u,.int 1 v]},toks:=tk} n:=c'.go ((At.refl c'.at_.2.1).grow λb o e=>aZ _ e)
  exact wpAny_pyIter_range (s:={ s' with heap:=s'.heap.push { cls:=.type "range",data:=.fields #[.int i t,.int j u,.int 1 v]},toks:=tk}) (IsRange.new _ _ _ _ _ _ _) (small_one (bO (by decide) UB) (gR b2' (by decide)) (bO (by decide) Jb) (gR UC (by decide))) ?_
  have es:Builtin.Range.rangeSize i j 1=((j-i).toNat:Int):=by
   rw[rangeSize_one];split<;>rename_i z
   ·show(aH ⟨"0:a-b,b<a",z⟩).symm
   ·rw[Int.toNat_of_nonpos ⟨"a-b:0,!b<a",z⟩];rfl
  rw[es];obtain⟨n1,n2,n3,n4⟩:=Mr c1 (o:={ cls:=.type "range_iterator",data:=.fields #[bZ i,bZ ((j-i).toNat:Int),bZ 1]}) rfl
  exact h _ _ _ _ _ _ _ (akg (a:=i) (b:=j) (r5.mpr ⟨"a-b:'300000,a<100000,0-100000:b",UC,UB⟩)) n1 (by simp) hk n2 ?_ n3 n4;cases e:s.heap.get? (s'.heap.push { cls:=.type "range",data:=.fields #[.int i t,.int j u,.int 1 v]}).objs.size with
  |none=>rfl
  |some o=>
   obtain⟨o',e'⟩:=a.2.2.kp _ o e;rw[mX] at e';have q:=bM e';have q':s'.heap.objs.size+1<s'.heap.objs.size:=q;show absurd q' (kF.mpr (i6 _))
 obtain _ | ⟨qU,hv⟩:=hv
 ·show hq.elim
 ·obtain _ | ⟨Av,hv⟩:=hv
  ·show a8 hq qU λi _ hq=>call_range_1 (fin _ _ _ _ _ _ hq)
  ·show Am hq hv λhq=>a8 hq qU λi _ hq=>a8 hq Av λj _ hq=>call_range_2 (fin _ _ _ _ _ _ hq)
def wX(m:Env)(t:List Nat):Env:=m.filter λp=>!t.contains p.1
def Jm{x:Nat}:lk (wX m t) x=if t.contains x then none else lk m x:=by
 induction m with
 |nil=>show(ite_self (aP:Option V)).symm
 |cons p r ih=>
  obtain⟨k,v⟩:=p;unfold wX at ih ⊢;rw[List.filter_cons];by_cases hk:t.contains k=true
  ·have e1:(!t.contains k)=false:=by rw[hk];rfl
   simp only[e1,rW,if_false];rw[ih];split
   ·rfl
   ·rename_i hx;show lk r x=(match ai k x with | true=>some v | false=>lk r x)
    cases q:ai k x with
    |true=>rw[bL q] at hk;show absurd hk hx
    |false=>rfl
  ·have e1:(!t.contains k)=true:=by simpa using hk
   simp only[e1,if_true];show(match ai k x with | true=>some v | false=>lk (List.filter _ r) x)=if t.contains x=true then none else (match ai k x with | true=>some v | false=>lk r x)
   cases q:ai k x with
   |true=>rw[bL q] at hk;rw[if_neg hk]
   |false=>show ih
def jY{x y:Nat}{v:V}:lk (up m x v) y=if x=y then some v else lk m y:=by
 induction m with
 |nil=>
  show(match ai x y with | true=>some v | false=>none)=_
  cases q:ai x y with
  |true=>rw[if_pos (bL q)]
  |false=>rw[if_neg (λe=>by subst e;simp at q)];rfl
 |cons p r ih=>
  obtain⟨k,u⟩:=p;dsimp only[up];cases q:ai k x with
  |true=>
   have:=bL q;subst this;show(match ai k y with | true=>some v | false=>lk r y)=if k=y then some v else (match ai k y with | true=>some u | false=>lk r y)
   cases q':ai k y with
   |true=>rw[if_pos (bL q')]
   |false=>rw[if_neg (λe=>by subst e;simp at q')]
  |false=>
   show(match ai k y with | true=>some u | false=>lk (up r x v) y)=if x=y then some v else (match ai k y with | true=>some u | false=>lk r y)
   cases q':ai k y with
   |true=>
    have e1:=bL q';subst e1;rw[if_neg (λe=>by subst e;simp at q)]
   |false=>show ih
theorem nZ.congr{f:Act}(L:nZ bz f m Y h)(e:∀x,lk m' x=lk m x):nZ bz f m' Y h:=⟨L.ns,L.n8,L.Ap,L.jV,λx v hv hx=>L.loc x v hv (by rw[<-e];show hx),L.fH⟩
set_option tactic.hygienic false
def jt(m:Env):Prop:=∀y v,lk m y=some v->∀p b c,v≠.dz p b c
theorem jt.up{x:Nat}{v:V}(h:jt m)(hv:∀p b c,v≠.dz p b c):jt (up m x v):=λy u e=>by
 rewrite [jY] at e
 split at e
 ·cases e;show hv
 ·show h y u e
def nj.UD{p:List Nat}(x:nj bz Y h fa p b cs)(hL:h.get? L=some oL)(hd:∃es ep,oL.data=.dict es ep)(k:jg L h h')(mu:∀b,bu Y h' b↔bu Y h b):nj bz Y h' fa p b cs:=by
 obtain⟨ar,bo,inner,c',iP,cl,q,pm,sc,cps,e1,e2,e3,e4,e5,e6,e7,e8⟩:=x;obtain⟨es,ep,hd⟩:=hd;have n1:fa≠L:=λq=>by subst q;nomatch hL,e1;cases hd
 obtain⟨cc,oc,vs,t,b1,b2,b3,b4⟩:=e3;cases b1;have n2:c'≠L:=λq=>by subst q;nomatch hL,b2;nomatch hd,b3
 exact⟨ar,bo,inner,c',iP,cl,q,pm,sc,cps,(k.2 _ n1).trans e1,λm=>e2 ((mu _).mp m),⟨c',oc,vs,t,rfl,(k.2 _ n2).trans b2,b3,b4⟩,λm=>e4 ((mu _).mp m),e5,e6,e7,λx v hx=>?_⟩;obtain⟨c,rv,d1,⟨o,d2,BX⟩,d3,d4,d5⟩:=e8 x v hx;have n3:c≠L:=λq=>by subst q;nomatch hL,d2;nomatch hd,BX
 show⟨c,rv,d1,⟨o,(k.2 _ n3).trans d2,BX⟩,d3,λm=>d4 ((mu _).mp m),d5⟩
def UE(hi:∀b c fs,Y b=some (.inst c fs)->b≠L)(k:jg L h h'):∀b,bu Y h' b↔bu Y h b:=by
 have da:∀b d,dh Y h' b d↔dh Y h b d:=by
  intro b d;constructor
  ·rintro⟨c,fs,ox,e,hx,hd⟩;show⟨c,fs,ox,e,(k.2 b (hi _ _ _ e)) ▸ hx,hd⟩
  ·rintro⟨c,fs,ox,e,hx,hd⟩;show⟨c,fs,ox,e,(k.2 b (hi _ _ _ e)).trans hx,hd⟩
 intro b;unfold bu;simp only[da]
def aba(I:Inv J w bz Y h)(hL:h.get? L=some oL)(hd:(∃es ep,oL.data=.dict es ep)\/∃v,oL.data=.cell v)(nm:¬ bu Y h L):Y L=none:=by
 cases e:Y L with
 |none=>rfl
 |some o=>
  exfalso;by_cases hm:o.mut=true
  ·show nm (.inl ⟨o,e,hm⟩)
  ·have R:=I.rep _ _ e;cases R with
   |inst _ _ _=>show hm rfl
   |lst _ _ _=>show hm rfl
   |cu _ _=>show hm rfl
   |fL e' _ _=>obtain⟨o,e',_,n,h3⟩:=e';nomatch hL,e';rcases hd with⟨_,_,hd⟩ | ⟨_,hd⟩<;>rw[hd] at h3<;>cases h3
   |tup e' _ _=>obtain⟨o,e',_,n,h3⟩:=e';nomatch hL,e';rcases hd with⟨_,_,hd⟩ | ⟨_,hd⟩<;>rw[hd] at h3<;>cases h3
def B9{F:dw}{f:Act}{s0:Shared}(c:Cn J w bz F W A f sc m Y0 s0 Y s n){x:Nat}{v:V}(r:VC bz Y s.heap rv v)(hk:sc.names.lookup (nm x)=some .local)(hs:s0.heap.get? f.env.locals=none)
  {P:Unit->Shared->Prop} (h:∀s',Cn J w bz F W A f sc (up m x v) Y0 s0 Y s' n->P () s'):ae (ag J w) A (storeName f.env (nm x) rv) P EE s:=by
 have nq:f.env.scope.kind=.function:=by rw[c.st.se];show c.st.kind
 have hl:f.env.kindOf (nm x)=some .local:=by unfold cY;rw[c.st.se];show hk
 obtain⟨mm,ns⟩:=c.lv.ns;exact zr hl ns (λh' B4 k=>?_) (by rw[nq];rfl);obtain⟨oL,es,ep,hL,hd,nu⟩:=id ns;have I:=c.at_.2.1;have D5:=c.lv.n8;have nr:=aba I hL (.inl ⟨es,ep,hd⟩) D5;have hi:∀b cc fs,Y b=some (.inst cc fs)->b≠f.env.locals:=λb cc fs e q=>by subst q;nomatch nr,e
 have mu:=UE hi k;have he:∃o',h'.get? f.env.locals=some o':=let ⟨o,_,_,e,_⟩:=B4;⟨o,e⟩;have a:=c.at_.SY (tk:=s.toks+1) hL D5 c.lv.Ap hi (.inr hs) k he nr (λzz=>by obtain⟨vs,q,t,e1,_⟩:=zz;nomatch hd,e1)
 have cellK:∀cc vv,s.heap.IsCell cc vv->h'.IsCell cc vv:=λcc vv zz=>by obtain⟨o,e,og⟩:=zz;show⟨o,(k.2 _ (λq=>by subst q;nomatch hL,e;nomatch hd,og)).trans e,og⟩
 exact h _ ⟨c.cx,c.wo,c.rm,c.st,⟨⟨_,B4⟩,λq=>D5 ((mu _).mp q),c.lv.Ap,λy cc e=>?_,λy u hv hy=>?_,λenv he=>?_⟩,a⟩
 ·obtain⟨⟨vv,hc⟩,h2,h3⟩:=c.lv.jV y cc e;show⟨⟨vv,cellK _ _ hc⟩,λq=>h2 ((mu _).mp q),h3⟩
 ·rewrite [jY] at hy
  split at hy
  ·rename_i e;subst e;cases hy;have hH:iO h' f.env (nm x) rv:=.inl ⟨hl,_,B4,if_pos rfl⟩;clear h;cases v with
   |dz p b cs=>obtain⟨fa,rfl,hc⟩:=r;show⟨fa,hH,hc.UD hL ⟨es,ep,hd⟩ k mu⟩
   |_=>show⟨rv,hH,r⟩
  ·rename_i aU;have oj:∀vv,iO s.heap f.env (nm y) vv->iO h' f.env (nm y) vv:=λvv H=>by
    rcases H with⟨h1,m2,h2,h3⟩ | ⟨h1,cc,h2,h3⟩
    ·exact .inl ⟨h1,_,B4,?_⟩;rw[if_neg (λq=>aU (BR q).symm)];rw[<-h3];obtain⟨o1,es1,ep1,g1,g2,g3,g4⟩:=ns;obtain⟨o2,es2,ep2,g5,g6,g7,g8⟩:=h2
     nomatch g1,g5
     nomatch g2,g6
     rw[<-g4,<-g8]
    ·show .inr ⟨h1,cc,h2,cellK _ _ h3⟩
   have L:=c.lv.loc y u hv hy;unfold Loc at L ⊢;split at L
   ·obtain⟨fa,h1,h2⟩:=L;show⟨fa,oj _ h1,h2.UD hL ⟨es,ep,hd⟩ k mu⟩
   ·obtain⟨vv,h1,h2⟩:=L;show⟨vv,oj _ h1,h2⟩
 ·obtain⟨Mt,L',hf,hb,hm,m2,n2⟩:=c.lv.fH env he;exact⟨Mt,L',hf,hb,λq=>hm ((mu _).mp q),?_⟩;by_cases q:L'=f.env.locals
  ·show⟨_,by rw[q];show B4⟩
  ·show⟨m2,n2.sameBut k q⟩
def UG{F:dw}{f:Act}{s0:Shared}(c:Cn J w bz F W A f sc m Y0 s0 Y s n){x:Nat}{v:V}(r:VR rv v)(nc:jt m)(hk:sc.names.lookup (nm x)=some .cell)(hs:∀cc,f.env.cells.lookup (nm x)=some cc->s0.heap.get? cc=none)
  {P:Unit->Shared->Prop} (h:∀s',Cn J w bz F W A f sc (up m x v) Y0 s0 Y s' n->P () s'):ae (ag J w) A (storeName f.env (nm x) rv) P EE s:=by
 have nq:f.env.scope.kind=.function:=by rw[c.st.se];show c.st.kind
 have hl:f.env.kindOf (nm x)=some .cell:=by unfold cY;rw[c.st.se];show hk
 obtain⟨cc,hc⟩:=c.st.cin (nm x) (.inl hk);obtain⟨⟨v0,Jn⟩,D5,nb⟩:=c.lv.jV _ _ hc;exact wpAny_storeName_cell nq hl hc Jn λh' qg k=>?_;obtain⟨oL,hL,hd⟩:=id Jn;have I:=c.at_.2.1;have nr:=aba I hL (.inr ⟨_,hd⟩) D5;have hi:∀b ci fs,Y b=some (.inst ci fs)->b≠cc:=λb ci fs e q=>by subst q;nomatch nr,e
 have mu:=UE hi k;have he:∃o',h'.get? cc=some o':=let ⟨o,e,_⟩:=qg;⟨o,e⟩;have a:=c.at_.SY (tk:=s.toks) hL D5 nb hi (.inr (hs _ hc)) k he nr (λzz=>by obtain⟨vs,q,t,e1,_⟩:=zz;nomatch hd,e1)
 have Ca:∀L mm,s.heap.Ns L mm->h'.Ns L mm:=λL mm zz=>by obtain⟨o,es,ep,e,og,rr⟩:=zz;show⟨o,es,ep,(k.2 _ (λq=>by clear hc he hi nb nr;subst q;nomatch hL,e;nomatch hd,og)).trans e,og,rr⟩
 have cellK:∀c2 vv,c2≠cc->s.heap.IsCell c2 vv->h'.IsCell c2 vv:=λc2 vv q zz=>by obtain⟨o,e,og⟩:=zz;show⟨o,(k.2 _ q).trans e,og⟩
 obtain⟨mm,ns⟩:=c.lv.ns;exact h _ ⟨c.cx,c.wo,c.rm,c.st,⟨⟨mm,Ca _ _ ns⟩,λq=>c.lv.n8 ((mu _).mp q),c.lv.Ap,λy c2 e=>?_,λy u hv hy=>?_,λenv he=>?_⟩,a⟩
 ·obtain⟨⟨vv,gI⟩,h2,h3⟩:=c.lv.jV y c2 e;exact⟨?_,λq=>h2 ((mu _).mp q),h3⟩;by_cases q:c2=cc
  ·show⟨_,by rw[q];show qg⟩
  ·show⟨vv,cellK _ _ q gI⟩
 ·rewrite [jY] at hy
  split at hy
  ·rename_i e;subst e;cases hy;have hH:iO h' f.env (nm x) rv:=.inr ⟨.inl hl,cc,hc,qg⟩;clear h;cases v with
   |dz p b cs=>show absurd rfl (r.jt p b cs)
   |_=>show⟨rv,hH,r⟩
  ·rename_i aU;have oj:∀vv,iO s.heap f.env (nm y) vv->iO h' f.env (nm y) vv:=λvv H=>by
    rcases H with⟨h1,m2,h2,h3⟩ | ⟨h1,c2,h2,h3⟩
    ·show .inl ⟨h1,m2,Ca _ _ h2,h3⟩
    ·show .inr ⟨h1,c2,h2,cellK _ _ (λq=>by clear cellK hL he hi nb nr;subst q;show aU (BR (c.st.inj _ _ _ hc h2))) h3⟩
   have L:=c.lv.loc y u hv hy;have no:=nc y u hy;clear hy;cases u with
   |dz p b cs=>show absurd rfl (no p b cs)
   |_=>obtain⟨vv,h1,h2⟩:=L;show⟨vv,oj _ h1,h2⟩
 ·obtain⟨Mt,L',hf,hb,hm,m2,n2⟩:=c.lv.fH env he;show⟨Mt,L',hf,hb,λq=>hm ((mu _).mp q),m2,Ca _ _ n2⟩
set_option tactic.hygienic true
def anw(fs:List (Nat×V))(k:Nat)(v:V):(up fs k v).length<=fs.length+1:=by
 induction fs with
 |nil=>show cy _
 |cons p r ih=>
  obtain⟨j,u⟩:=p;dsimp only[up];cases ai j k with
  |true=>simp
  |false=>simp;show⟨"A.B+1,A.B+1",ih⟩
def ajS{E:Value->Shared->Prop}{s0:Shared}{a k c:Nat}{x:V}{Q:Unit->Shared->Prop}(cx:Cx w bz)(at_:At J w bz own Y0 s0 Y s)(ha:Y a=some (.inst c fs))(ho:vS c k=true)(hl:fs.length<900)(hv:VR v x)
  (h:∀s',At J w bz own Y0 s0 (Tactic.put Y a (.inst c (up fs k x))) s'->At J w bz nil Y s (Tactic.put Y a (.inst c (up fs k x))) s'->Q () s'):ae (ag J w) A (mM (.ref a) (nm k) v) Q E s:=by
 obtain⟨d,es,n,sl,e,ed,f⟩:=(at_.2.1.rep a _ ha).FJ;have F:=Tv w.params ho;unfold attrOk at F;simp only[bx] at F;obtain⟨⟨⟨⟨⟨f1,f2⟩,f3⟩,f4⟩,f5⟩,f6⟩:=F;have X:(KF w.params).In s.heap:=cx.k.keeps at_.2.1.stays;have I:=LW e ed;exact set_plain X I (beq_iff_eq.mp f4) (osa_open (s:={ s with toks:=s.toks+1}) X I f5 (beq_iff_eq.mp f6) λb=>?_)
 obtain⟨cd,hc,gw⟩:=any_some f2;have D':(s.heap.update d (Obj.putName (nm k) (jk w.params (nm k)) (.str (nm k) (s.toks+1)) v)).get? d=some (dictOf (putL (nm k) (jk w.params (nm k)) (.str (nm k) (s.toks+1)) v es) (putN (nm k) es n)):=by
  rw[mW _ ed (by rw[putName_dict];rfl),putName_dict]
 exact ah (aq (ah (ah (wpAny_loadPart e (ah (Looks.here (s:={ s with toks:=s.toks+1}) (looks_clsIn X hc) ?_))))))
 rw[gw];exact aq (a:=some d) (ah (aq (ah ?_)));unfold nsSet;exact ah (ah (wpAny_askSetting (aq (ah (wpAny_mkText (ah (wpAny_loadPart ed ?_)))))));have c0:(!es.toArray.any (·.key.isStr (nm k)) && es.toArray.any (·.refKey))=false:=by
  have z:es.toArray.any (·.refKey)=false:=by rw[<-Array.any_toList];show f.noRef
  rw[z,Bool.and_false]
 dsimp only;rw[aRefKeyMayBeTheName_at,c0];exact wpAny_updatePart ed ?_;have hlen:(putL (nm k) (jk w.params (nm k)) (.str (nm k) (s.toks+1)) v es).length<=901:=by
  rw[(f.put hv (k:=k) (hs:=jk w.params (nm k)) (t:=s.toks+1)).len];have:=anw fs k x;show⟨"A.901,B>900,A.B+1",hl,this⟩
 exact ah (wpAny_lookBehind D' (by show pastItsLine_dict (by rw[aM,cq];show⟨"A.16777216+1,A.901",hlen⟩)) ?_);exact aq ?_;have hd:(f.put hv (k:=k) (hs:=jk w.params (nm k)) (t:=s.toks+1))=(f.put hv (k:=k) (hs:=jk w.params (nm k)) (t:=s.toks+1)):=rfl;show h _ (at_.SW ha e (mY ..) D' (f.put hv)) ((At.refl at_.2.1).SW ha e (mY ..) D' (f.put hv))
def agN{E:Value->Shared->Prop}{l:Nat}{k:Int}{t:Tok}{Q:Unit->Shared->Prop}(wY:s.heap.get? l=some (gh vs n))(h0:0<=k)(FZ:k<2 ^ 63)(hn:k<vs.length)
  (hQ:∀n',(s.heap.update l (cZ (·.setIfInBounds k.toNat v))).get? l=some (gh (vs.set k.toNat v) n')->Q () { s with heap:=s.heap.update l (cZ (·.setIfInBounds k.toNat v))}) :
  ae (ag J w) A (mO (.ref l) (.int k t) v) Q E s:=by
 have hl:s.heap.IsList l vs.toArray:=dZ wY;unfold mO
 try with_reducible exact bY ?_
 first | exact ah (aq ?_) | skip
 exact ah (zP hl.typeIs (by decide) ?_);exact ah (zj (name:=ax "__setitem__") hl.typeIs pB
  (pE pB hl.typeIs zg ?_ (zh _ _ _)))
 show ae _ _ (uj (.int k t) >>= _) _ _ s;exact ah (wpAny_listSubscript_int (fitsIndex_of h0 FZ) ?_);clear FZ;obtain⟨j,rfl⟩:=oI h0;have hj:j<vs.toArray.size:=by rw[aM];show⟨"A>B,'A<'B",hn⟩
 have ju:vs.toArray[j]?=some vs.toArray[j]:=Array.getElem?_eq_getElem hj;show ae _ _ ((seqItemAt l j >>= λr=>pure (r.map (j,·))) >>= _) _ _ s;exact ah (ah (wpAny_seqItemAt wY rfl (aq ?_)));rw[ju];show ae _ _ (setSeqItemAt l j v >>= _) _ _ s;obtain⟨n',gJ⟩:∃n',(s.heap.update l (cZ (·.setIfInBounds j v))).get? l=some (gh (vs.set j v) n'):=by
  have h:=sY wY (λxs=>xs.setIfInBounds j v);rw[List.setIfInBounds_toArray] at h;show⟨_,h⟩
 exact ah (wpAny_setSeqItemAt wY rfl ?_)
 first
  |show ah (aq (aq ⟨.none,rfl,aq (hQ n' gJ)⟩))
  |show aq ⟨.none,rfl,aq (hQ n' gJ)⟩
def ahC(n:Nat){i:Int}(h0:0<=i)(h1:i<=j)(h2:j<=n):sliceBounds (some i) (some j) none n=(i,j,1):=by
 unfold sliceBounds;simp only[Option.getD_none,show(1:Int) > 0 by decide,if_true];rw[if_neg ⟨"!a<0,0:a",h0⟩,if_neg ⟨"!a<0,0:b,b:a",h0,h1⟩];rw[show max (0:Int) (min i n)=i by rw[lU (bO h1 h2),fP h0],show max (0:Int) (min j n)=j by rw[lU h2,fP (bO h0 h1)]]
def ai0(vs us:List Value){j:Nat}(h1:i<=j)(h2:j<=vs.length):(vs.toArray.extract 0 i++us.toArray++vs.toArray.extract (max (i:Int) j).toNat vs.toArray.size)=(vs.take i++us++vs.drop j).toArray:=by
 have e:(max (i:Int) j).toNat=j:=by rw[fP (dP.2 h1)];rfl
 rw[e];apply Array.ext';simp[List.extract_eq_drop_take,sg]
def agV{E:Value->Shared->Prop}{l l2 sl n2:Nat}{i:Int}{t u:Tok}{Q:Unit->Shared->Prop}(wY:s.heap.get? l=some (gh vs n))(UH:s.heap.get? l2=some (gh us n2))(aU:l≠l2)(hs:s.heap.IsSliceOf sl (.int i t) (.int j u) .none)(h0:0<=i)(h1:i<=j)(h2:j<=vs.length)(gx:vs.length+us.length<100000)
  (hQ:∀h' n',jg l s.heap h'->h'.get? l=some (gh (vs.take i.toNat++us++vs.drop j.toNat) n')->Q () { s with heap:=h'}) :
  ae (ag J w) A (mO (.ref l) (.ref sl) (.ref l2)) Q E s:=by
 have hl:s.heap.IsList l vs.toArray:=dZ wY;obtain⟨os,Jo,gA,Cb⟩:=id hs;have Ay:s.TypeIs (.ref sl) "slice":=⟨os,Jo,gA⟩;obtain⟨a,rfl⟩:=oI h0;obtain⟨b,rfl⟩:=oI (bO h0 h1);unfold mO
 try with_reducible exact bY ?_
 first | exact ah (aq ?_) | skip
 exact ah (zP hl.typeIs (by decide) ?_);exact ah (zj (name:=ax "__setitem__") hl.typeIs pB
  (pE pB hl.typeIs zg ?_ (zh _ _ _)))
 show ae _ _ (uj (.ref sl) >>= _) _ _ s;exact ah ?_;unfold uj;exact ah (wpAny_specialOf Ay slice_no_index ?_);rw[if_pos rfl];exact aq ?_;show ae _ _ (typeOf (.ref sl) >>= _) _ _ s;exact ah (pL Ay ?_);rw[if_neg (by decide)];rw[listSliceParts_eq];have F3:¬ ((rawPart none == bZ 0)=true):=aF;exact ah (ah (i9 Jo Cb (x:=dK) rfl (ah (t8 .none ?_))));rw[if_neg F3];exact ah (i9 Jo Cb (x:=.int (a:Int) t) rfl (ah (t8 (.int _ _) ?_)));exact ah (i9 Jo Cb (x:=.int (b:Int) u) rfl (ah (t8 (.int _ _) (aq ?_))));dsimp only;have F4:zS (.ref l) (.ref l2)=false:=by simp[zS,aU]
 rw[F4];rw[if_neg aF];exact ah ?_;unfold Builtin.List.listAllItems;exact ah (pL (T:="list") ⟨_,UH,rfl⟩ ?_);rw[if_pos (by decide)];exact(ti UH rfl ?_);exact ah (ti wY rfl ?_);exact ah (wpAny_of_eq (sliceIndices_raw (some (a:Int)) (some (b:Int)) none vs.toArray.size (by simp)) ?_);rw[ahC _ h0 h1 (by rw[aM];show h2)];dsimp only;rw[if_pos (by decide)];exact ah (wpAny_rule ?_);have htl:uk (vs.toArray.size+us.toArray.size)=false:=by
  unfold uk;rw[cq];show decide_eq_false (by simp;show⟨"A+B.16777216,A+B>100000",gx⟩)
 rw[htl];rw[if_neg aF];have Mu:=ai0 vs us (i:=a) (j:=b) ⟨"A.B,'A:'B",h1⟩ ⟨"A.B,'A:'B",h2⟩;have hlen:(vs.take a++us++vs.drop b).length<=vs.length+us.length:=by
  rw[cR,cR,sE,mv];show⟨"A+B+C.D+B,A.E,E.F,C+F~D",fe _ _,⟨"A.B,'A:'B",h1⟩,y6 ⟨"A.B,'A:'B",h2⟩⟩
 have Az:∀xs:Array Value,xs=vs.toArray->xs.extract 0 (a:Int).toNat++us.toArray++xs.extract (max (a:Int) b).toNat xs.size=(vs.take a++us++vs.drop b).toArray:=by
  rintro xs rfl;show Mu
 obtain⟨n',gJ⟩:∃n',(s.heap.update l (cZ λxs=>xs.extract 0 (a:Int).toNat++us.toArray++xs.extract (max (a:Int) b).toNat xs.size)).get? l=some (gh (vs.take a++us++vs.drop b) n'):=by
  have h:=sY wY (λxs=>xs.extract 0 (a:Int).toNat++us.toArray++xs.extract (max (a:Int) b).toNat xs.size);rw[Az _ rfl] at h;show⟨_,h⟩
 exact ah (sZ wY rfl ?_ (by rw[aM,cq];show⟨"A.16777216,A+B>100000",gx⟩) (by rw[Az _ rfl,aM,cq];show⟨"A.16777216+1,B+C>100000,A.B+C",gx,hlen⟩));exact ah (wpAny_letGo ?_);show aq ⟨.none,rfl,aq (hQ _ n' (mY ..) gJ)⟩
structure Nw(f:Act)(sc:Scope)(m:Env)(s0:Shared):Prop where
 loc:s0.heap.get? f.env.locals=none
 jV:∀x cc,sc.names.lookup (nm x)=some .cell->f.env.cells.lookup (nm x)=some cc->s0.heap.get? cc=none
 nc:∀x,sc.names.lookup (nm x)=some .cell->jt m
 nf:∀x,sc.names.lookup (nm x)≠some .free
 top:∃outer,f.fl=f.env::outer/\f.env.frame=some f.env.locals
theorem Nw.up{f:Act}{s0:Shared}{x:Nat}{v:V}(n:Nw f sc m s0)(hv:∀p b c,v≠.dz p b c):Nw f sc (up m x v) s0:=⟨n.loc,n.jV,λy h=>(n.nc y h).up hv,n.nf,n.top⟩
inductive GN(J:Program)(w:aK)(bz:Heap)(F:dw)(W:Wo)(A:bp)(f:Act)(sc:Scope)(Y0:So)(s0:Shared)(n:Nat)(N:Env->So->Prop)(s':Shared):Prop
 |mk (m':Env) (Y':So) (h0:N m' Y') (h1:Cn J w bz F W A f sc m' Y0 s0 Y' s' n) (h2:Nw f sc m' s0):GN J w bz F W A f sc Y0 s0 n N s'
def ST(t:Tg):Prop:=∀{J:Program}{w:aK}{bz:Heap}{F:dw}{W:Wo}{A:bp}{f:Act}{sc:Scope}{m:Env}{Y0:So}{s0:Shared}{Y:So}{s:Shared}{n:Nat},Cn J w bz F W A f sc m Y0 s0 Y s n->Nw f sc m s0->∀{ex:Expr},DJ sc t ex=true->∀{rv:Value}{v:V},VR rv v->∀{N:Env->So->Prop}{X:Nat->So->Prop},wT W t v m N X Y ->
 ae (ag J w) A (ew ex f.env rv) (λ_=>GN J w bz F W A f sc Y0 s0 n N) (BE J w bz F f.fl Y0 s0 X) s
def aoo(x:Nat):ST (.v x):=by
 intros;intro n c nw ex aA rv v r N X hw;exact dy aA λq pos h=>fF h λh1=>jr (P:=λq=>lB (sc.names.lookup q) true true false false=true->ae (ag J w) A (ew (.Name q pos) f.env rv) (λ_=>GN J w bz F W A f sc Y0 s0 n N) (BE J w bz F f.fl Y0 s0 X) s) h1 λ_ h2=>tN ?_;have hv:=r.jt;rcases Iw h2 with hl | ⟨hl,_⟩ | ⟨_,h⟩
 ·show B9 c r.vc hl nw.loc λs' c'=>⟨_,Y,hw,c',nw.up hv⟩
 ·show UG c r (nw.nc x hl) hl (nw.jV x · hl) λs' c'=>⟨_,Y,hw,c',nw.up hv⟩
 ·cases h
section
variable{M:Model}{A:bp}{E:Value->Shared->Prop}{s:Shared}{env:aD}
theorem wpAny_release{keep:List Value}{Q:Unit->Shared->Prop}(h:Q () s):ae M A (release vs keep) Q E s:=fun Γ p hΓ=>by rw[Sem.wp_release];show h
def UI{o:Expr}{attr:Str}{pos:Pos}{Q:Unit->Shared->Prop}(h:ae M A (eval o env) (λov s1=>ae M A (mM ov attr v) Q E s1) E s):ae M A (ew (.Attribute o attr pos) env v) Q E s:=by
 rw[arm_assign_Attribute];show ah (bY (aI h (λov s1 h1=>ah (fZ (ah (bY (aI h1 (λ_ s2 h2=>wpAny_release h2) λ_ _ e=>e))))) λ_ _ e=>e))
def UJ{o i:Expr}{pos:Pos}{Q:Unit->Shared->Prop}(h:ae M A (eval o env) (λov s1=>ae M A (eval i env) (λiv s2=>ae M A (mO ov iv v) Q E s2) E s1) E s):ae M A (ew (.Subscript o i pos) env v) Q E s:=by
 rw[arm_assign_Subscript];show ah (bY (aI h (λov s1 h1=>ah (bY (aI h1 (λiv s2 h2=>ah (fZ (ah (bY (aI h2 (λ_ s3 h3=>wpAny_release h3) λ_ _ e=>e))))) λ_ _ e=>e))) λ_ _ e=>e))
end
def ama{a:E}{k:Nat}(ha:SE a):ST (.attr a k):=by
 intros;intro n c nw ex aA rv v r N X hw;exact jT aA λo q pos h=>fF h λh1 h2=>jU h2 (UI (ha.then c h1 hw λov y Y' s' hv hq c'=>?_));exact bV hq hv λb hq=>?_;obtain⟨ci,fs,h1,hq⟩:=LC hq;obtain⟨h2,hq⟩:=Al hq;obtain⟨h3,h4⟩:=Al hq;rw[c'.wo.fw] at h2;show ajS c'.cx c'.at_ h1 h2 (dT h3) r λjv a1 a2=>⟨m,_,h4,c'.go a2,nw⟩
def am8{a i:E}(ha:SE a)(hi:SE i):ST (.idx a i):=by
 intros;intro n c nw ex aA rv v r N X hw;exact nh aA λo q pos h=>fF h λh1 h2=>UJ (ha.then c h1 hw λov y Y' s' hv hq c'=>hi.then c' h2 hq λiv z iQ jv hu dH de=>?_);exact bV dH hv λb dH=>a8 dH hu λj _ dH=>?_;rcases (II dH).symm with⟨xs,e,h0,h1,hk⟩ | ⟨es,ep,e,h1,hk⟩
 ·have R:=de.at_.2.1.rep _ _ e;have le:=adm R;obtain⟨us,k,g,q⟩:=iC R;exact agN g h0 (oK h1 (bO (dP.mpr le) (by decide))) (by rw[q.len];show h1) λn' g'=>?_;show⟨m,_,hk,de.go ((At.refl de.at_.2.1).lst (tk:=jv.toks) e (mY ..) g' (q.set r _) (by rw[yN];show le)),nw⟩
 ·obtain⟨kvs,g,q⟩:=wL (de.at_.2.1.rep _ _ e);have nd:(kvs.map (·.1)).Nodup:=by obtain⟨_,_,_,_,_,_,_,_,n⟩:=g;show n
  exact wpAny_setItem_pairs (knd:=bT J w) (intKind_is J w j _) g (λh' g' k=>?_) (by rw[q.len,cq];show⟨"A.16777216,A>1000",h1⟩);obtain⟨gy,g2⟩:=g'.dictAt;show⟨m,_,hk gy,de.go ((At.refl de.at_.2.1).store (tk:=jv.toks+1) e rfl rfl rfl rfl k (.cu g2 (q.put nd r))),nw⟩
def anz{a lo hi:E}(ha:SE a)(wM:SE lo)(wN:SE hi):ST (.lu a lo hi):=by
 intros;intro n c nw ex aA rv v r N X hw;exact nh aA λo _ pos h=>BG h λ_ _ _ p h=>ic h λl h=>ic h λu h=>BK h λh1 h2 h3 h4=>kY h4 (UJ (ha.then c h1 hw λov y Y' s' hv hq c'=>ud ?_));rw[pI];exact wM.then c' h2 hq λlv z Y1 s1 Jp lE c1=>?_;rw[pI];exact wN.then c1 h3 lE λuv z' Y2 s2 huv iD c2=>?_;rw[pH];exact aq ?_;exact bV iD hv λb iD=>a8 iD Jp λi t1 iD=>a8 iD huv λj t2 iD=>bV iD r λb2 iD=>?_;obtain⟨xs,e1,iD⟩:=rJ iD;obtain⟨ys,e2,aU,q0,q1,q2,q3,q4⟩:=rJ iD;obtain⟨us,k1,g1,r1⟩:=iC (c2.at_.2.1.rep _ _ e1);obtain⟨ws,k2,g2,r2⟩:=iC (c2.at_.2.1.rep _ _ e2);have UK:xs.length+ys.length<100000:=q3;have c3:Cn _ _ _ _ _ _ _ _ m Y0 s0 Y2 { s2 with heap:=s2.heap.push { cls:=.type "slice",data:=.fields #[.int i t1,.int j t2,.none]}} n:=c2.go ((At.refl c2.at_.2.1).grow (tk:=s2.toks) λb o e=>aZ _ e)
 exact agV (s:={ s2 with heap:=s2.heap.push { cls:=.type "slice",data:=.fields #[.int i t1,.int j t2,.none]}}) (aZ _ g1) (aZ _ g2) aU ⟨_,cJ _ rfl,rfl,rfl⟩ q0 q1 (by rw[r1.len];show q2) (by rw[r1.len,r2.len];show UK) λh' n' k g'=>?_
 show⟨m,_,q4,c3.go ((At.refl c3.at_.2.1).lst (tk:=s2.toks) e1 k g' (((r1.take _).app r2).app (r1.drop _)) (by simp;show⟨"A+(B+C).200000,D+B>100000,A.D,C.D;1,2,1,1",UK,mx _ _,pj _ _⟩)),nw⟩
set_option tactic.hygienic false
theorem Cn.congr{F:dw}{f:Act}{s0:Shared}(c:Cn J w bz F W A f sc m Y0 s0 Y s n)(e:∀x,lk m' x=lk m x):Cn J w bz F W A f sc m' Y0 s0 Y s n:=⟨c.cx,c.wo,c.rm,c.st,c.lv.congr e,c.at_⟩
theorem Nw.congr{f:Act}{s0:Shared}(n:Nw f sc m s0)(e:∀x,lk m' x=lk m x):Nw f sc m' s0:=⟨n.loc,n.jV,λx h y v hy=>n.nc x h y v (by rw[<-e];show hy),n.nf,n.top⟩
def D6(ts:List Tg):Prop:=∀{J:Program}{w:aK}{bz:Heap}{F:dw}{W:Wo}{A:bp}{f:Act}{sc:Scope}{m:Env}{Y0:So}{s0:Shared}{Y:So}{s:Shared}{n:Nat},Cn J w bz F W A f sc m Y0 s0 Y s n->Nw f sc m s0->∀{es:List Expr},wI sc ts es=true->∀{vs:List Value}{xs:List V},bD vs xs->∀{N:Env->So->Prop}{X:Nat->So->Prop},wTs W ts xs m N X Y ->
 ae (ag J w) A (pJ ((fj es f.env).map (·.2)) vs) (λ_=>GN J w bz F W A f sc Y0 s0 n N) (BE J w bz F f.fl Y0 s0 X) s
def amv:D6 []:=by
 intros;intro n c nw es aA vs xs r N X hw;exact bq aA ?_;cases r with
 |nil=>show aq ⟨m,Y,hw,c,nw⟩
 |cons _ _=>show hw.elim
theorem BE.join{F:dw}{fl:List aD}{s0:Shared}{X:Nat->So->Prop}{e:Value}{s':Shared}(x:BE J w bz F fl Y0 s0 X e s'):BE J w bz F fl Y0 s0 X e s':=x
def ajF{t:Tg}(ht:ST t)(F5:D6 ts):D6 (t::ts):=by
 intros;intro n c nw es aA vs xs r N X hw;exact lD aA λe es h1 h2=>?_;rw[Lq (Fv h1).1];cases r with
 |nil=>show hw.elim
 |cons hv r=>show ah (bY (aI (ht c nw h1 hv hw) (λ_ s' zz=>by obtain⟨m',Y',a,b,d⟩:=zz;show F5 b d h2 r a) λ_ _ e=>e))
def Mv:∀{ts:List Tg}{es:List Expr},wI sc ts es=true->ts.length=es.length:=by
 intro zl;induction zl with
 |nil=>
  intro _ h;show bq h rfl
 |cons zx _ ih=>
  intro _ h;show lD h λ_ _ _ h=>congrArg mB (ih h)
def akc{env:aD}:∀{ts:List Tg}{es:List Expr},wI sc ts es=true->(fj es env).length=es.length/\(fj es env).findIdx? (·.1)=none:=by
 intro zl;induction zl with
 |nil=>
  intro _ h;show bq h ⟨rfl,rfl⟩
 |cons zx _ ih=>
  intro _ h;show lD h λ_ _ a h=>by
   rw[Lq (Fv a).1];have h1:=ih h;show⟨congrArg mB h1.1,by rw[yK,h1.2];rfl⟩
theorem Mw{a:Nat}(x:IsTup h a us.toArray):h.IsTuple a us.toArray:=x
def ah6(F5:D6 ts){F:dw}{f:Act}{s0:Shared}(c:Cn J w bz F W A f sc m Y0 s0 Y s n)(nw:Nw f sc m s0){es:List Expr}{k:Nat}{pos:Pos}(aA:wI sc ts es=true){a:Nat}(ha:Y a=some (.tup xs))(hl:xs.length=ts.length){N:Env->So->Prop}{X:Nat->So->Prop}(hw:wTs W ts xs m N X Y) :
  ae (ag J w) A (ew (.Tuple es k pos) f.env (.ref a)) (λ_=>GN J w bz F W A f sc Y0 s0 n N) (BE J w bz F f.fl Y0 s0 X) s:=by
 obtain⟨us,g,r⟩:=uM (c.at_.2.1.rep _ _ ha);obtain⟨e1,e2⟩:=akc (env:=f.env) aA;exact zG c.rm.handled (Mw g) (by rw[e1,aM,r.len,hl,Mv aA]) e2 λh' ex=>?_;have gr:Grows s.heap h':=λb o e=>ex b o (b9 (bM e)) e;have c':=c.go ((At.refl c.at_.2.1).grow (tk:=s.toks) gr);show F5 c' nw aA r hw
theorem Mx{a b:Bool}(h:¬ (a || b)=true):a=false/\b=false:=Bool.or_eq_false_iff.mp (Bool.eq_false_iff.mpr h)
def ao2{b:Bool}(h:(!b)=false):b=true:=by
 cases b with
 |true=>rfl
 |false=>show h.symm
theorem Jq{c:Prop} [Decidable c]{b:Sem (Option (List Str))}{R:List Str->Prop}(k:¬ c->b=pure none\/∃names,b=pure (some names)/\R names):(if c then pure none else b)=pure none\/∃names,(if c then pure none else b)=pure (some names)/\R names:=
 if h:c then .inl (if_pos h) else (if_neg h).symm ▸ k h
def ahO{ts:List Expr}{k:Nat}{p:Pos}{value:Expr}{env:aD}(hc:∀vs k' p',value=.Tuple vs k' p'->Fw vs=false) :
  mJ [.Tuple ts k p] value env=pure none\/∃names,mJ [.Tuple ts k p] value env=pure (some names)/\names.length=ts.length/\(ts.length=2\/ts.length=3)/\names.eraseDups.length=names.length/\∃g:Expr->Option Str,names=ts.filterMap g/\∀e n,g e=some n->∃pos,e=.Name n pos/\env.kindOf n=some .local:=by
 induction value using dC with
 |Tuple vs k' p'=>
  have hv:=hc vs k' p' rfl;have qg:(vs.all (t7 8))=false:=by
   clear hc;induction vs with
   |nil=>cases hv
   |cons e r ih=>
    dsimp only[Fw] at hv;rw[List.all_cons];cases q:t7 8 e with
    |false=>rfl
    |true=>rw[q,rX] at hv;rw[rX];show ih hv
  unfold mJ;exact Jq λh1=>Jq λ_=>Jq λh3=>Jq λ_=>.inr ⟨_,if_neg (λq=>aF (qg.symm.trans q)),?_,?_,?_,_,rfl,λe n=>?_⟩
  ·show bne_eq_false_iff_eq.mp (Mx h3).1
  ·show(dO.mp (ao2 (Mx (λq=>h1 (dO.mpr (.inl q)))).1)).imp beq_iff_eq.mp beq_iff_eq.mp
  ·show bne_eq_false_iff_eq.mp (Mx h3).2
  ·induction e using dC with
   |Name id pos=>
    intro h;by_cases hc:(env.kindOf id == some .local && pos.line == (ts.head?.map (·.pos.line)).getD 0)=true
    ·obtain rfl:=bR ((if_pos hc).symm.trans h);show⟨pos,rfl,beq_iff_eq.mp (dN.mp hc).1⟩
    ·cases (if_neg hc).symm.trans h
   |_=>show λh=>Ks rfl h
 |_=>show .inl rfl
set_option tactic.hygienic true
def GS(J:Program)(w:aK)(bz:Heap)(F:dw)(W:Wo)(A:bp)(f:Act)(sc:Scope)(Y0:So)(s0:Shared)(n:Nat)(N:Env->So->Prop)(R:V->So->Prop)(fl:Flow)(s':Shared):Prop:=match fl with
 | .next=>GN J w bz F W A f sc Y0 s0 n N s'
 | .ret v=>GE J w bz Y0 s0 R v s'
 |_=>False
def SS(a:Sm):Prop:=∀{J:Program}{w:aK}{bz:Heap}{F:dw}{W:Wo}{A:bp}{f:Act}{sc:Scope}{m:Env}{Y0:So}{s0:Shared}{Y:So}{s:Shared}{n:Nat},Cn J w bz F W A f sc m Y0 s0 Y s n->Nw f sc m s0->∀{z:Stmt},IA sc a z=true->∀{N:Env->So->Prop}{R:V->So->Prop}{X:Nat->So->Prop},wS W a m N R X Y ->
 ae (ag J w) A (exec z f.env) (GS J w bz F W A f sc Y0 s0 n N R) (BE J w bz F f.fl Y0 s0 X) s
def uR(l:List Sm):Prop:=∀{J:Program}{w:aK}{bz:Heap}{F:dw}{W:Wo}{A:bp}{f:Act}{sc:Scope}{m:Env}{Y0:So}{s0:Shared}{Y:So}{s:Shared}{n:Nat},Cn J w bz F W A f sc m Y0 s0 Y s n->Nw f sc m s0->∀{zs:List Stmt},qR sc l zs=true->∀{N:Env->So->Prop}{R:V->So->Prop}{X:Nat->So->Prop},wSs W l m N R X Y ->
 ae (ag J w) A (execs zs f.env) (GS J w bz F W A f sc Y0 s0 n N R) (BE J w bz F f.fl Y0 s0 X) s
def amo:uR []:=by
 intros;intro n c nw zs aA N R X hw;show bq aA (mF ⟨m,Y,hw,c,nw⟩)
def My{a:Sm}{l:List Sm}{zs:List Stmt}(h:qR sc (a::l) zs=true):(a=.stop/\l=[])\/∃z r,zs=z::r/\IA sc a z=true/\qR sc l r=true:=by
 induction zs using cU with
 |nil=>show .inl (SG h)
 |cons z r=>show(dO.mp h).imp SG λh=>fF h λa b=>⟨z,r,rfl,a,b⟩
def akj{a:Sm}{l:List Sm}(ha:SS a)(hl:uR l):uR (a::l):=by
 intros;intro n c nw zs aA N R X hw;have cG:wS W a m (λm s=>wSs W l m N R X s) R X Y:=hw;rcases My aA with⟨rfl,rfl⟩ | ⟨z,r,rfl,h1,h2⟩
 ·show cG.elim
 ·exact pF (aI (ha c nw h1 cG) (λfl s' h=>?_) λ_ _ e=>e);cases fl with
  |next=>obtain⟨m',Y',h3,h4,h5⟩:=h;show hl h4 h5 h2 h3
  |ret v=>show h
  |brk=>show h.elim
  |cont=>show h.elim
def UL{v:Expr}{t:Option Expr}{line:Nat}{env:aD}(h:Lr v=true):pP v t line env=pure false:=by
 induction v using dC<;>first | rfl | show(aF h).elim
def UM{f:Act}{v:Expr}{line:Nat}(st:iB f sc)(h:Sz sc tg v=true):pP v (some tg) line f.env=pure false:=by
 rcases dO.mp h with h | h
 ·show UL h
 exact BD h λa b s p h=>?_;rcases dO.mp h with h | h
 ·exact dy h λn q h=>?_;have hk:(f.env.kindOf n == some z8)=false:=by
   cases hb:(f.env.kindOf n == some z8) with
   |false=>rfl
   |true=>
    have e:=beq_iff_eq.mp hb;unfold cY at e
    rewrite [st.se] at e
    unfold Ls at h
    nomatch e,h
  unfold pP;dsimp only;rw[hk];simp
 ·show jT h λ_ _ _ _=>rfl
def agX{v:Expr}{env:aD}(h:ns 24 tg=true)(h':ns 25 tg=true):mJ [tg] v env=pure none:=by
 induction tg using dC<;>first | rfl | show(aF h).elim | show(aF h').elim
def UN{E:Value->Shared->Prop}{env:aD}{value:Expr}{pos:Pos}{Q:Flow->Shared->Prop}(h:ae M A (eval value env) (λv s1=>ae M A (ew tg env v) (λ_=>Q .next) E s1) E s)
  (hs:pP value (some tg) pos.line env=pure false) (hw:mJ [tg] value env=pure none) (he:(fj [tg] env).map (·.2)=[ew tg env]):ae M A (exec (.Assign [tg] value pos) env) Q E s:=by
 exact wpAny_Assign_stores (aI h (λv s1 h1=>?_) λ_ _ x=>x) hs hw;rw[he];show h1
def amY{t:Tg}{e:E}(ht:ST t)(he:SE e):SS (.asg t e):=by
 intros;intro n c nw z aA N R X hw;exact BH aA λ_ v pos h=>dv h λtg h=>ie h λh1 h2 h3=>UN (he.then c h2 hw λrv x Y' s' hv hq c'=>?_) (UM c.st h3) (agX (Fv h1).2.1 (Fv h1).2.2) (by rw[Lq (Fv h1).1];rfl);show ht c' nw h1 hv hq
def F6{t:Tg}{id:Str}{p:Pos}(h:DJ sc t (.Name id p)=true):∃x,t=.v x/\id=nm x:=by
 induction t using Tg.casesOn with
 |v x=>show fF h λa _=>jr a λ_=>⟨x,rfl,rfl⟩
 |_=>show(aF h).elim
def ait{env:aD}{g:Expr->Option Str}(hg:∀e n,g e=some n->∃pos,e=.Name n pos/\env.kindOf n=some .local){es:List Expr}:∀{names:List Str},names=es.filterMap g->names.length=es.length->∃ps:List Pos,es.length=ps.length/\es=(names.zip ps).map (λp=>Expr.Name p.1 p.2)/\∀n∈names,env.kindOf n=some .local:=by
 induction es with
 |nil=>show λh _=>⟨[],rfl,by subst h;rfl,by subst h;intro n hn;cases hn⟩
 |cons e es ih=>
  intro names h hl;cases q:g e with
  |none=>
   rw[List.filterMap_cons_none q] at h;subst h;show absurd (List.length_filterMap_le g es) (by rw[hl];show Nat.not_succ_le_self _)
  |some b=>
   rw[List.filterMap_cons_some q] at h;subst h;obtain⟨ps,p1,p2,p3⟩:=ih rfl (fX hl);obtain⟨pos,rfl,kb⟩:=hg _ _ q;show⟨pos::ps,congrArg mB p1,congrArg _ p2,λn hn=>(az.mp hn).elim (λe=>e ▸ kb) (p3 n)⟩
def UO{x y:Nat}{u v:V}(h:x≠y)(z:Nat):lk (up (up m x u) y v) z=lk (up (up m y v) x u) z:=by
 rw[jY,jY,jY,jY];by_cases h1:x=z<;>by_cases h2:y=z<;>simp[h1,h2]<;>show absurd (h1.trans h2.symm) h
def UQ{x y q:Nat}{u v r:V}(h1:x≠y)(h2:x≠q)(h3:y≠q)(z:Nat):lk (up (up (up m x u) y v) q r) z=lk (up (up (up m q r) y v) x u) z:=by
 rw[jY,jY,jY,jY,jY,jY];by_cases a:x=z<;>by_cases b:y=z<;>by_cases c:q=z<;>simp[a,b,c]<;>first | show absurd (a.trans b.symm) h1 | show absurd (a.trans c.symm) h2 | show absurd (b.trans c.symm) h3
def UT{es:List Expr}{k:Nat}{p:Pos}{v:Expr}{line:Nat}{env:aD}:swapsWithSole [.Tuple es k p] v line env=pure false:=by induction v using dC<;>rfl
def aoy{a b:Str}(h:[a,b].eraseDups.length=2):a≠b:=by
 intro e;subst e;rw[lX] at h;simp at h
def apz{a b c:Str}(h:[a,b,c].eraseDups.length=3):a≠b/\a≠c/\b≠c:=by
 rw[lX] at h;exact⟨λe=>?_,λe=>?_,λe=>?_⟩<;>subst e
 ·by_cases q:c=a<;>simp[q,lX] at h
 ·by_cases q:b=a<;>simp[q,lX] at h
 ·by_cases q:b=a<;>simp[q,lX] at h
def ajt{es:List Expr}{names:List Str}{ps:List Pos}(h1:wI sc ts es=true)(p1:es.length=ps.length)(p2:es=(names.zip ps).map (λp=>Expr.Name p.1 p.2))(n1:names.length=es.length)(n2:es.length=2\/es.length=3)(n3:names.eraseDups.length=names.length) :
  (∃x y,ts=[.v x,.v y]/\names=[nm x,nm y]/\x≠y)\/∃x y z,ts=[.v x,.v y,.v z]/\names=[nm x,nm y,nm z]/\x≠y/\x≠z/\y≠z:=by
 have nd:∀{x y:Nat},nm x≠nm y->x≠y:=λh e=>h (e ▸ rfl)
 have tl:=Mv h1;rcases n2 with n2 | n2
 ·obtain⟨a,b,rfl⟩:=Fz (n1.trans n2);obtain⟨p,q,rfl⟩:=Fz (p1.symm.trans n2);obtain⟨t1,t2,rfl⟩:=Fz (tl.trans n2);rw[p2] at h1;exact fF h1 λh1 h2=>fF h2 λh2 _=>?_;obtain⟨x,rfl,rfl⟩:=F6 h1;obtain⟨y,rfl,rfl⟩:=F6 h2;show .inl ⟨x,y,rfl,rfl,nd (aoy n3)⟩
 ·obtain⟨a,b,d,rfl⟩:=IE (n1.trans n2);obtain⟨p,q,r,rfl⟩:=IE (p1.symm.trans n2);obtain⟨t1,t2,t3,rfl⟩:=IE (tl.trans n2);rw[p2] at h1;exact fF h1 λh1 h2=>fF h2 λh2 h3=>fF h3 λh3 _=>?_;obtain⟨x,rfl,rfl⟩:=F6 h1;obtain⟨y,rfl,rfl⟩:=F6 h2;obtain⟨z,rfl,rfl⟩:=F6 h3;obtain⟨d1,d2,d3⟩:=apz n3;show .inr ⟨x,y,z,rfl,rfl,nd d1,nd d2,nd d3⟩
section
variable{F:dw}{W:Wo}{A:bp}{f:Act}{sc:Scope}{m:Env}{Y0 Y:So}{s0 s:Shared}{n:Nat}{us:List Value}{xs:List V}{N:Env->So->Prop}{R:V->So->Prop}{X:Nat->So->Prop}
def akO(c:Cn J w bz F W A f sc m Y0 s0 Y s n)(nw:Nw f sc m s0){x y:Nat}(aU:x≠y)(hx:sc.names.lookup (nm x)=some .local)(hy:sc.names.lookup (nm y)=some .local)(r:bD us xs)(q1:xs.length=2)(q2:wTs W [.v x,.v y] xs m N X Y) :
  ae (ag J w) A (pJ ([nm x,nm y].reverse.map (λn=>jc f.env n)) us.toArray.toList.reverse) (λ_=>GS J w bz F W A f sc Y0 s0 n N R Flow.next) (BE J w bz F f.fl Y0 s0 X) s:=by
 obtain⟨v1,v2,rfl⟩:=Fz q1;obtain⟨u1,_,rfl,r1,r⟩:=r.Fy;obtain⟨u2,_,rfl,r2,r⟩:=r.Fy;rw[r.SK];show ae (ag J w) A (je [_] (jc f.env (nm y) _) >>= λ_=>(je [] (jc f.env (nm x) _) >>= λ_=>pure ())) _ _ _;exact ah (bY (mH (B9 c r2.vc hy nw.loc λs3 c3=>?_)));exact ah (bY (mH (B9 c3 r1.vc hx nw.loc λs4 c4=>?_)));show aq ⟨_,_,q2,c4.congr (UO aU),((nw.up r2.jt).up r1.jt).congr (UO aU)⟩
def ahn(c:Cn J w bz F W A f sc m Y0 s0 Y s n)(nw:Nw f sc m s0){x y z:Nat}(e1:x≠y)(e2:x≠z)(e3:y≠z)(hx:sc.names.lookup (nm x)=some .local)(hy:sc.names.lookup (nm y)=some .local)(hz:sc.names.lookup (nm z)=some .local)(r:bD us xs)(q1:xs.length=3)(q2:wTs W [.v x,.v y,.v z] xs m N X Y) :
  ae (ag J w) A (pJ ([nm x,nm y,nm z].reverse.map (λn=>jc f.env n)) us.toArray.toList.reverse) (λ_=>GS J w bz F W A f sc Y0 s0 n N R Flow.next) (BE J w bz F f.fl Y0 s0 X) s:=by
 obtain⟨v1,v2,v3,rfl⟩:=IE q1;obtain⟨u1,_,rfl,r1,r⟩:=r.Fy;obtain⟨u2,_,rfl,r2,r⟩:=r.Fy;obtain⟨u3,_,rfl,r3,r⟩:=r.Fy;rw[r.SK];show ae (ag J w) A (je [_,_] (jc f.env (nm z) _) >>= λ_=>(je [_] (jc f.env (nm y) _) >>= λ_=>(je [] (jc f.env (nm x) _) >>= λ_=>pure ()))) _ _ _;exact ah (bY (mH (B9 c r3.vc hz nw.loc λs3 c3=>?_)));exact ah (bY (mH (B9 c3 r2.vc hy nw.loc λs4 c4=>?_)));exact ah (bY (mH (B9 c4 r1.vc hx nw.loc λs5 c5=>?_)));show aq ⟨_,_,q2,c5.congr (UQ e1 e2 e3),(((nw.up r3.jt).up r2.jt).up r1.jt).congr (UQ e1 e2 e3)⟩
end
def anZ{e:E}(F5:D6 ts)(he:SE e):SS (.ly ts e):=by
 intros;intro n c nw z aA N R X hw;exact BH aA λ_ v pos h=>dv h λ_ h=>uG h λes k p h=>ie h λh1 h2 h4=>?_;have cG:wE W e m (λv s=>fN v λa=>vH (s a) λxs=>xs.length=ts.length/\wTs W ts xs m N X s) X Y:=hw;rcases ahO (ts:=es) (k:=k) (p:=p) (value:=v) (env:=f.env) (λvs k' p' q=>by clear h h2;subst q;have h5:(!Fw vs)=true:=h4;simpa using h5) with hn | ⟨names,hn,n1,n2,n3,g,n4,n5⟩
 ·exact Assign_Tuple (he.then c h2 cG λrv x Y' s' hv hq c'=>?_) UT hn;exact bV hq hv λa hq=>?_;obtain⟨xs,e,q1,q2⟩:=IG hq;show ah6 F5 c' nw h1 e q1 q2
 ·exact Assign_Tuple_swapped (he.then c h2 cG λrv x Y' s' hv hq c'=>?_) UT hn;exact bV hq hv λa hq=>?_;obtain⟨xs,e,q1,q2⟩:=IG hq;obtain⟨us,g,r⟩:=uM (c'.at_.2.1.rep _ _ e);rw[show names.length=us.toArray.size by rw[aM,r.len,q1,Mv h1,n1]];exact wpAny_unpackItems_tuple c'.rm.handled (Mw g) λh' ex=>?_;have c2:=c'.go ((At.refl c'.at_.2.1).grow (tk:=s'.toks) λb o e=>ex b o (b9 (bM e)) e);obtain⟨ps,p1,p2,p3⟩:=ait n5 n4 n1;have F7:∀k∈names,sc.names.lookup k=some .local:=λk hk=>by
   have:=p3 k hk;unfold cY at this;rw[c.st.se] at this;show this
  rcases ajt h1 p1 p2 n1 n2 n3 with⟨x,y,rfl,rfl,aU⟩ | ⟨x,y,z,rfl,rfl,d1,d2,d3⟩
  ·show akO c2 nw aU (F7 _ (.head _)) (F7 _ (.tail _ (.head _))) r q1 q2
  ·show ahn c2 nw d1 d2 d3 (F7 _ (.head _)) (F7 _ (.tail _ (.head _))) (F7 _ (.tail _ (.tail _ (.head _)))) r q1 q2
def aiJ{f:Act}(st:iB f sc):interactive f.env=false:=by
 unfold interactive;rw[st.se,st.kind];rfl
def aoE{e:E}(he:SE e):SS (.ex e):=by
 intros;intro n c nw z aA N R X hw;show Lg aA λv pos h=>fF h λa b=>wpAny_Expr_any (he.then c a hw λrv x Y' s' hv hq c'=>⟨m,Y',hq,c',nw⟩) (aiJ c.st) (UL b)
def anj{e:E}{a b:List Sm}(he:SB e)(ha:uR a)(hb:uR b):SS (.iff e a b):=by
 intros;intro n c nw z aA N R X hw;have cG:wB W e m (wE W e m) (λt s=>match t with
  |true=>wSs W a m N R X s
  |false=>wSs W b m N R X s) X Y:=hw
 exact Ld aA λt x y pos h=>ie h λh1 h2 h3=>wpAny_If (he.then c h1 cG λt Y' s' hk c'=>?_);cases t with
 |true=>show ha c' nw h2 hk
 |false=>show hb c' nw h3 hk
def aoj{e:E}(he:SE e):SS (.ret e):=by
 intros;intro n c nw z aA N R X hw;exact Fq aA λv pos h=>?_;cases v with
 |some v=>show zR (he.then c h hw λrv x Y' s' hv hq c'=>⟨x,Y',hv,hq,c'.at_⟩)
 |none=>
  revert hw;show Lw h λhw=>wpAny_Return_none ⟨.none,Y,.none,hw,c.at_⟩
def UU{E:Value->Shared->Prop}{I:Nat}{G:So->Prop}{St:Nat->Obj->Prop}(it:Aw J w bz I xs G St)(ho:s.heap.get? I=some o)(st:St i o)(tg:Expr)(v:Value){Q:Unit->Shared->Prop}(q:Q () s):ae (ag J w) A (mG tg (.ref I) v) Q E s:=by
 obtain⟨⟨n,hn,hc⟩,-,vs,hd⟩:=it.quiet i o st;clear it st;have key:∀a:Nat,ae (ag J w) A (mG (.List [] default) (.ref I) (.ref a)) Q E s:=λa=>by
  exact ah (wpAny_load ho ?_);rw[hn,hd];show YF (by rw[show(["enumerate","zip","dict_itemiterator","dict_reverseitemiterator","odict_iterator","itertools.zip_longest","itertools.pairwise"].contains n)=false from hc,Bool.false_and];show aF) (aq q)
 have p:=aq (M:=ag J w) (A:=A) (E:=E) q;have tup:ae (ag J w) A (mG (.List [] default) (.ref I) v) Q E s:=by
  induction v using Af<;>first | show key _ | show p
 induction tg using dC<;>first | show p | show tup
def Cd(t:List Nat)(f:Act)(sc:Scope)(m:Env)(s0:Shared):Prop:=∀x∈t,(sc.names.lookup (nm x)=some .local/\s0.heap.get? f.env.locals=none)\/(sc.names.lookup (nm x)=some .cell/\(∀cc,f.env.cells.lookup (nm x)=some cc->s0.heap.get? cc=none)/\jt m)
theorem Cd.up{f:Act}{s0:Shared}{x:Nat}{v:V}(n:Cd t f sc m s0)(hv:∀p b c,v≠.dz p b c):Cd t f sc (up m x v) s0:=λy hy=>(n y hy).imp id λzz=>by obtain⟨a,b,c⟩:=zz;show⟨a,b,c.up hv⟩
def UW{F:dw}{f:Act}{s0:Shared}(c:Cn J w bz F W A f sc m Y0 s0 Y s n)(nw:Cd t f sc m s0){x:Nat}(hx:x∈t){v:V}(r:VR rv v)
  {P:Unit->Shared->Prop} (h:∀s',Cn J w bz F W A f sc (up m x v) Y0 s0 Y s' n->P () s'):ae (ag J w) A (storeName f.env (nm x) rv) P EE s:=by
 rcases nw x hx with⟨h1,h2⟩ | ⟨h1,h2,h3⟩
 ·show B9 c r.vc h1 h2 h
 ·show UG c r h3 h1 h2 h
def ai2{F:dw}{f:Act}{s0:Shared}:∀{l:List Nat}{es:List Expr}{m:Env}{s:Shared},Cn J w bz F W A f sc m Y0 s0 Y s n->Cd t f sc m s0->(∀x∈l,x∈t)->BP sc l es=true->∀{vs:List Value}{xs:List V},bD vs xs->xs.length=l.length->∀{P:Unit->Shared->Prop},
  (∀s',Cn J w bz F W A f sc ((l.zip xs).foldl (λm p=>up m p.1 p.2) m) Y0 s0 Y s' n->P () s')->ae (ag J w) A (pJ ((fj es f.env).map (·.2)) vs) P EE s:=by
 intro zl;induction zl with
 |nil=>
  intro es m s c nw hl aA vs xs r he P h;show bq aA (by
  cases r with
  |nil=>show aq (h s c)
  |cons _ _=>cases he)
 |cons x l ih=>
  intro es m s c nw hl aA vs xs r he P h;cases r with
  |nil=>cases he
  |cons hv r=>
   show gG aA λp es _ h2=>ah (bY (tN (UW c nw (hl x (.head _)) hv λs' c'=>ih c' (nw.up hv.jt) (λy hy=>hl y (.tail _ hy)) h2 r (fX he) h)))
def ahN{env:aD}:∀{l:List Nat}{es:List Expr},BP sc l es=true->l.length=es.length/\(fj es env).length=es.length/\(fj es env).findIdx? (·.1)=none:=by
 intro zl;induction zl with
 |nil=>
  intro _ h;show bq h ⟨rfl,rfl,rfl⟩
 |cons zx _ ih=>
  intro _ h;show gG h λp es _ h=>by
   have h1:=ih h;exact⟨congrArg mB h1.1,congrArg mB h1.2.1,?_⟩;show((false,_)::fj es env).findIdx? (·.1)=none;rw[yK,h1.2.2];rfl
def UX{F:dw}{f:Act}{s0:Shared}(c:Cn J w bz F W A f sc m Y0 s0 Y s n)(nw:Cd t f sc m s0)(aA:BQ sc t tg=true){v:V}(r:VR rv v){K:Env->Prop}(h:jI t v m K Y)
  {P:Unit->Shared->Prop} (hp:∀m' s',K m'->Cn J w bz F W A f sc m' Y0 s0 Y s' n->P () s'):ae (ag J w) A (ew tg f.env rv) P EE s:=by
 rcases dO.mp aA with aA | aA
 ·revert nw h;show dy aA λ_ _ aA=>dv aA λx hx=>jr hx λ_ nw h=>tN (UW c nw (.head _) r λs' c'=>hp _ s' h c')
 exact uG aA λes k pos h'=>fF h' λh1 qW=>?_;rcases alv h with⟨x,rfl,_⟩ | h
 ·cases h1
 revert h1;exact bV h r λa h h1=>?_;obtain⟨xs,e,hl,hk⟩:=IG h;obtain⟨us,g,r⟩:=uM (c.at_.2.1.rep _ _ e);obtain⟨n1,n2,n3⟩:=ahN (env:=f.env) qW;exact zG c.rm.handled (Mw g) (by rw[n2,aM,r.len,hl,n1]) n3 λh₁ ex=>?_;have gr:Grows s.heap h₁:=λb o e=>ex b o (b9 (bM e)) e;show ai2 (c.go ((At.refl c.at_.2.1).grow (tk:=s.toks) gr)) nw (λx hx=>hx) qW r hl λs' c'=>hp _ s' hk c'
def alO:∀(ps:List (Nat×V)) (m1 m2:Env) (U:Nat->Prop),(∀y,¬ U y->lk m1 y=lk m2 y)->∀y,(¬ U y\/y∈ps.map (·.1))->lk (ps.foldl (λm p=>up m p.1 p.2) m1) y=lk (ps.foldl (λm p=>up m p.1 p.2) m2) y:=by
 intro zl;induction zl with
 |nil=>
  intro m1 m2 U h y hy;show hy.elim (h y) (λq=>by cases q)
 |cons zx ps ih=>
  obtain⟨x,v⟩:=zx;intro m1 m2 U h y hy;exact ih (up m1 x v) (up m2 x v) (λz=>U z/\z≠x) (λz hz=>?_) y ?_
  ·rw[jY,jY];by_cases q:x=z
   ·rw[if_pos q,if_pos q]
   ·rw[if_neg q,if_neg q];show h z λu=>hz ⟨u,aj q⟩
  ·rcases hy with hy | hy
   ·show .inl λu=>hy u.1
   ·rcases az.mp hy with q | q
    ·show .inl λu=>u.2 q
    ·show .inr q
def ahv{v:V}{K:Env->Prop}(h:jI t v m K Y):jI t v (wX m t) (λm0=>∃m',K m'/\∀y,lk m' y=lk m0 y) Y:=by
 have same:∀y,¬ (y∈t)->lk m y=lk (wX m t) y:=λy hy=>by rw[Jm,if_neg (by simpa using hy)]
 exact LJ h (λx e h=>⟨_,h,λy=>?_⟩) λa xs _ _ hl h=>⟨_,h,λy=>alO _ _ _ (·∈t) same y ?_⟩
 ·rw[jY,jY];by_cases q:x=y
  ·rw[if_pos q,if_pos q]
  ·rw[if_neg q,if_neg q];show same y (by rw[e];simpa using aj q)
 ·rw[mw ⟨"A.B,B~A;1,-1",hl⟩];show(lS (y∈t)).symm
set_option tactic.hygienic false
section
variable{A:bp}{R:mR->Shared->Prop}{s:Shared}{env:aD}
def ahG{test:Expr}{body:List Stmt}
  (h:ae (ag J w) A (isTrue test env (eval test env)) (λb s2=>
    if b then ae (ag J w) A (execs body env) (λf s3=>match f with
      | .next | .cont=>cW (ag J w) A (.whileLoop test body [] env) R s3
      | .brk=>R (.ok .next) s3
      | .ret v=>R (.ok (.ret v)) s3) (dW (ag J w) A env λe s'=>R (.error e) s') s2
    else R (.ok .next) s2)
    (dW (ag J w) A env λe s'=>R (.error e) s') s):cW (ag J w) A (.whileLoop test body [] env) R s:=by
 exact tV ?_;show ae _ A ((whileTurn test body [] env).onRaise (λx=>do mL x env;t5 x)) _ _ s;exact uf ?_;simp only[whileTurn];exact ah (aI h (λb s2 h2=>?_) λ_ _ h'=>h');cases b with
 |false=>
  simp only[rW,if_false] at h2 ⊢;show ah (mF (aq h2))
 |true=>
  simp only[if_true] at h2 ⊢;exact ah (aI h2 (λf s3 h3=>?_) λ_ _ h'=>h');cases f with
  |next=>show aq ⟨rfl,h3⟩
  |cont=>show aq ⟨rfl,h3⟩
  |brk=>show aq h3
  |ret v=>show aq h3
def UY{target:Expr}{it:Value}{body:List Stmt}
  (h:ae (ag J w) A (mS it) (λr s1=>match r with
   |none=>R (.ok .next) s1
   |some v=>ae (ag J w) A (mG target it v) (λ_ s2=>ae (ag J w) A (ew target env v) (λ_ s2=>ae (ag J w) A (execs body env) (λf s3=>match f with
     | .next | .cont=>cW (ag J w) A (.forLoop target it body [] env) R s3
     | .brk=>R (.ok .next) s3
     | .ret v=>R (.ok (.ret v)) s3) (dW (ag J w) A env λe s'=>R (.error e) s') s2) (dW (ag J w) A env λe s'=>R (.error e) s') s2) (dW (ag J w) A env λe s'=>R (.error e) s') s1) (dW (ag J w) A env λe s'=>R (.error e) s') s) :
  cW (ag J w) A (.forLoop target it body [] env) R s:=by
 exact tV ?_;show ae _ _ ((forTurn target it body [] env).onRaise (λx=>do mL x env;t5 x)) _ _ s;exact uf ?_;simp only[forTurn];exact ah (fZ (ah (wpAny_onRaise (aI h (λr s1 h1=>?_) λ_ _ h'=>fZ h'))));cases r with
 |none=>show aq ⟨rfl,codeAny_block (mF h1)⟩
 |some v=>
  exact ah (aI h1 (λ_ s2 h1=>?_) λ_ _ h'=>h');exact ah (aI h1 (λ_ s2 h2=>ah (aI h2 (λf s3 h3=>?_) λ_ _ h'=>h')) λ_ _ h'=>h');cases f with
  |next=>show aq ⟨rfl,h3⟩
  |cont=>show aq ⟨rfl,h3⟩
  |brk=>show aq h3
  |ret v=>show aq h3
end
def aom{e:E}{b:List Sm}(he:SB e)(hb:uR b):SS (.jH e b):=by
 intros;intro n c nw z aA N R X hw;exact K9 aA λt x _ pos h=>ie h λh1 h2 h3=>bq h3 ?_;exact wpAny_While ?_;have cG:jH (λm K s=>wB W e m (wE W e m) K bW s) (λm P R s=>wSs W b m P R bW s) N R m Y:=hw;exact cG (λm Y=>∀s,Cn J w bz F W A f sc m Y0 s0 Y s n->Nw f sc m s0->cW (ag J w) A (.whileLoop t x [] f.env) _ s) (λm Y ht s c nw=>?_) s c nw;exact ahG (aI (he.then c h1 ht λbb Y1 s1 hk c1=>?_) (λ_ _ q=>q) λ_ _ q=>q.no);cases bb with
 |false=>show⟨m,Y1,hk,c1,nw⟩
 |true=>
  exact aI (hb c1 nw h2 hk) (λfl s2 q=>?_) λ_ _ q=>q.no;cases fl with
  |next=>obtain⟨m',Y',h3,h4,h5⟩:=q;show h3 s2 h4 h5
  |ret v=>show q
  |brk=>show q.elim
  |cont=>show q.elim
set_option tactic.hygienic true
def wZ(o:Obj):Prop:=(∀es ep,o.data≠.dict es ep)/\(∀v,o.data≠.cell v)/\(∀fd,o.data≠.func fd)/\¬ Aj o
theorem wZ.fields{vs:Array Value}(h:o.data=.fields vs)(r:¬ Aj o):wZ o:=⟨λ_ _ q=>(by nomatch h,q),λ_ q=>(by nomatch h,q),λ_ q=>(by nomatch h,q),r⟩
def F8{I:Nat}(i:Inv J w bz Y h)(nr:Y I=none)(k:dY I h h'):∀b,bu Y h' b↔bu Y h b:=by
 have ne:∀b o,Y b=some o->b≠I:=λb o e q=>by subst q;nomatch nr,e
 have da:∀b d,dh Y h' b d↔dh Y h b d:=by
  intro b d;constructor
  ·rintro⟨c,fs,ox,e,hx,hd⟩;obtain⟨ob,e'⟩:=(i.rep b _ e).here;have:=k b ob (ne _ _ e) e'
   nomatch hx,this
   show⟨c,fs,ox,e,e',hd⟩
  ·rintro⟨c,fs,ox,e,hx,hd⟩;show⟨c,fs,ox,e,k b ox (ne _ _ e) hx,hd⟩
 intro b;unfold bu;simp only[da]
def nj.ext{I:Nat}{p:List Nat}(x:nj bz Y h fa p b cs)(hI:h.get? I=some o)(hd:wZ o)(k:dY I h h')(mu:∀b,bu Y h' b↔bu Y h b):nj bz Y h' fa p b cs:=by
 obtain⟨ar,bo,inner,c',iP,cl,q,pm,sc,cps,e1,e2,e3,e4,e5,e6,e7,e8⟩:=x;obtain⟨w0,hd2,F9,nR⟩:=hd;have n1:fa≠I:=λq=>by subst q;nomatch hI,e1;show F9 _ rfl
 obtain⟨cc,oc,vs,t,b1,b2,b3,b4⟩:=e3;cases b1;have n2:c'≠I:=λq=>by subst q;nomatch hI,b2;show nR ⟨vs,_,t,b3,b4⟩
 exact⟨ar,bo,inner,c',iP,cl,q,pm,sc,cps,k _ _ n1 e1,λm=>e2 ((mu _).mp m),⟨c',oc,vs,t,rfl,k _ _ n2 b2,b3,b4⟩,λm=>e4 ((mu _).mp m),e5,e6,e7,λx v hx=>?_⟩;obtain⟨c,rv,d1,⟨o2,d2,BX⟩,d3,d4,d5⟩:=e8 x v hx;have n3:c≠I:=λq=>by subst q;nomatch hI,d2;show hd2 _ BX
 show⟨c,rv,d1,⟨o2,k _ _ n3 d2,BX⟩,d3,λm=>d4 ((mu _).mp m),d5⟩
def nZ.ext{f:Act}{I:Nat}(L:nZ bz f m Y h)(hI:h.get? I=some o)(hd:wZ o)(k:dY I h h')(mu:∀b,bu Y h' b↔bu Y h b):nZ bz f m Y h':=by
 obtain⟨w0,hd2,F9,nR⟩:=id hd;have Ca:∀L mm,h.Ns L mm->h'.Ns L mm:=λL mm zz=>by obtain⟨o2,es,ep,e,og,rr⟩:=zz;show⟨o2,es,ep,k _ _ (λq=>by subst q;nomatch hI,e;show w0 _ _ og) e,og,rr⟩
 have cellK:∀cc vv,h.IsCell cc vv->h'.IsCell cc vv:=λcc vv zz=>by obtain⟨o2,e,og⟩:=zz;show⟨o2,k _ _ (λq=>by subst q;nomatch hI,e;show hd2 _ og) e,og⟩
 have oj:∀x vv,iO h f.env x vv->iO h' f.env x vv:=λx vv H=>by
  rcases H with⟨h1,m2,h2,h3⟩ | ⟨h1,cc,h2,h3⟩
  ·show .inl ⟨h1,m2,Ca _ _ h2,h3⟩
  ·show .inr ⟨h1,cc,h2,cellK _ _ h3⟩
 obtain⟨mm,ns⟩:=L.ns;exact⟨⟨mm,Ca _ _ ns⟩,λq=>L.n8 ((mu _).mp q),L.Ap,λx c e=>?_,λx v hv hx=>?_,λenv he=>?_⟩
 ·obtain⟨⟨v,hv⟩,h2,h3⟩:=L.jV x c e;show⟨⟨v,cellK _ _ hv⟩,λq=>h2 ((mu _).mp q),h3⟩
 ·have:=L.loc x v hv hx;unfold Loc at this ⊢;split at this
  ·obtain⟨fa,a,b⟩:=this;show⟨fa,oj _ _ a,b.ext hI hd k mu⟩
  ·obtain⟨rv,a,b⟩:=this;show⟨rv,oj _ _ a,b⟩
 ·obtain⟨hk,L',hf,hb,hm,m2,n2⟩:=L.fH env he;show⟨hk,L',hf,hb,λq=>hm ((mu _).mp q),m2,Ca _ _ n2⟩
def Cn.iter{F:dw}{f:Act}{s0:Shared}(c:Cn J w bz F W A f sc m Y0 s0 Y s n){I:Nat}(hI:s.heap.get? I=some o)(hd:wZ o)(nm:¬ bu Y s.heap I)(nr:Y I=none)(nb:bz.get? I=none)(hs:s0.heap.get? I=none)(k:dY I s.heap h') :
  Cn J w bz F W A f sc m Y0 s0 Y { s with heap:=h',toks:=tk} n/\¬ bu Y h' I:=by
 obtain⟨a,b⟩:=c.at_.Jl (tk:=tk) hI nm hs nb nr hd.2.2.2 k;show⟨⟨c.cx,c.wo,c.rm,c.st,c.lv.ext hI hd k (F8 c.at_.2.1 nr k),a⟩,b⟩
def qj(f:Act)(s0:Shared):List Nat:=f.env.locals::((f.env.cells.map (·.1)).filterMap λx=>f.env.cells.lookup x).filter λc=>(s0.heap.get? c).isNone
def UZ{f:Act}{s0:Shared}{b:Nat}(h:b∈qj f s0):b=f.env.locals\/((∃x,f.env.cells.lookup x=some b)/\s0.heap.get? b=none):=by
 rcases az.mp h with e | e
 ·show .inl e
 ·right;obtain⟨h1,h2⟩:=gV.mp e;obtain⟨x,_,h3⟩:=lY.mp h1;show⟨⟨x,h3⟩,by simpa using h2⟩
def ahs{l:List (Str×bU)}{x:Str}{c:bU}(h:l.lookup x=some c):x∈l.map (·.1):=by
 induction l with
 |nil=>cases h
 |cons p r ih=>
  obtain⟨y,d⟩:=p
  rewrite [bA] at h
  split at h
  ·rename_i e;rw[beq_iff_eq.mp e];show .head _
  ·show .tail _ (ih h)
theorem ah7{f:Act}{s0:Shared}{x:Str}{b:Nat}(h:f.env.cells.lookup x=some b)(hs:s0.heap.get? b=none):b∈qj f s0:=
 List.mem_cons_of_mem _ (gV.mpr ⟨lY.mpr ⟨x,ahs h,h⟩,by simp[hs]⟩)
def U0{F:dw}{f:Act}{s0:Shared}(c:Cn J w bz F W A f sc m Y0 s0 Y s n)(hl:s0.heap.get? f.env.locals=none) :
  ∃t0:Shared,Cn J w bz F W A f sc m Y t0 Y s n/\(∀b∈qj f s0,t0.heap.get? b=none)/\(∀b o,s.heap.get? b=some o->b∉qj f s0->t0.heap.get? b=some o)/\(∀b,bu Y t0.heap b->bu Y s.heap b)/\∀Y' s',At J w bz nil Y t0 Y' s'->At J w bz nil Y0 s0 Y' s':=by
 have I:=c.at_.2.1;have own:∀b∈qj f s0,s0.heap.get? b=none/\¬ bu Y s.heap b/\Y b=none:=λb hb=>by
  rcases UZ hb with rfl | ⟨⟨x,hx⟩,h⟩
  ·obtain⟨mm,oL,es,ep,hL,hd,_⟩:=c.lv.ns;show⟨hl,c.lv.n8,aba I hL (.inl ⟨es,ep,hd⟩) c.lv.n8⟩
  ·obtain⟨⟨v,oL,hL,hd⟩,h2,_⟩:=c.lv.jV x b hx;show⟨h,h2,aba I hL (.inr ⟨_,hd⟩) h2⟩
 have keep:∀b o,s.heap.get? b=some o->b∉qj f s0->(d6 s.heap (qj f s0)).get? b=some o:=λb o e h=>qb _ e h;have back:∀b o,(d6 s.heap (qj f s0)).get? b=some o->s.heap.get? b=some o:=λb o e=>of_hideAll _ e;have mu:∀b,bu Y (d6 s.heap (qj f s0)) b↔bu Y s.heap b:=λb=>by
  have da:∀b d,dh Y (d6 s.heap (qj f s0)) b d↔dh Y s.heap b d:=by
   intro b d;constructor
   ·rintro⟨c,fs,ox,e,hx,hd⟩;show⟨c,fs,ox,e,back _ _ hx,hd⟩
   ·rintro⟨c,fs,ox,e,hx,hd⟩;show⟨c,fs,ox,e,keep _ _ hx (λq=>by have:=(own b q).2.2;nomatch e,this),hd⟩
  unfold bu;simp only[da]
 obtain⟨⟨hh,tk,he⟩,_,S⟩:=id c.at_;exact⟨{ s with heap:=d6 s.heap (qj f s0)},⟨c.cx,c.wo,c.rm,c.st,c.lv,⟨s.heap,s.toks,rfl⟩,I,⟨λb o e=>⟨o,back b o e⟩,λb o e nn=>⟨o,back b o e,λq=>nn ((mu b).mpr q),.inr (.inl rfl)⟩,λb o e nn=>nn⟩⟩,λb hb=>hideAll_none _ hb,keep,λb=>(mu b).mp,λY' s' a=>?_⟩
 obtain⟨⟨h2,vW,e2⟩,I2,S2⟩:=a;exact⟨⟨h2,vW,?_⟩,I2,Step.trans (Ym:=Y) (hm:=d6 s.heap (qj f s0)) ⟨λb o e=>?_,λb o e nn=>?_,S.nw⟩ S2⟩
 ·rw[e2,he]
 ·obtain⟨o',e'⟩:=S.kp b o e;show⟨o',keep b o' e' λq=>by have:=(own b q).1;nomatch e,this⟩
 ·obtain⟨o',e',n',u⟩:=S.st b o e nn;show⟨o',keep b o' e' λq=>(by have:=(own b q).1;nomatch e,this),λq=>n' ((mu b).mp q),u⟩
def rebase{F:dw}{f:Act}{s0:Shared}(c:Cn J w bz F W A f sc m Y0 s0 Y s n)(nw:Nw f sc m s0) :
  ∃t0:Shared,Cn J w bz F W A f sc m Y t0 Y s n/\Nw f sc m t0/\(∀b o,s.heap.get? b=some o->b∉qj f s0->t0.heap.get? b=some o)/\(∀b,bu Y t0.heap b->bu Y s.heap b)/\∀Y' s',At J w bz nil Y t0 Y' s'->At J w bz nil Y0 s0 Y' s':=by
 obtain⟨t0,h1,h2,h3,h4,h5⟩:=U0 c nw.loc;show⟨t0,h1,⟨h2 _ (.head _),λx cc e1 e2=>h2 _ (ah7 e2 (nw.jV x cc e1 e2)),nw.nc,nw.nf,nw.top⟩,h3,h4,h5⟩
theorem U1{F:dw}{f:Act}{s0:Shared}(c:Cn J w bz F W A f sc m Y0 s0 Y s n){I:Nat}(hI:s.heap.get? I=some o)(hd:wZ o):I∉qj f s0:=λq=>by
 rcases UZ q with e | ⟨⟨y,hy⟩,_⟩
 ·obtain⟨mm,oL,es,ep,hL,gw,_⟩:=c.lv.ns
  rewrite [<-e] at hL
  nomatch hI,hL;show hd.1 _ _ gw
 ·obtain⟨⟨vv,oL,hL,gw⟩,_,_⟩:=c.lv.jV y _ hy
  nomatch hI,hL;show hd.2.1 _ gw
theorem Nw.nwT{f:Act}{s0:Shared}(nw:Nw f sc m s0)(h:∀x∈t,jR sc x (nm x)=true):Cd t f sc m s0:=λx hx=>by
 have h':=h x hx;exact fF h' λ_ h2=>?_;rcases Iw h2 with e | ⟨e,_⟩ | ⟨e,_⟩
 ·show .inl ⟨e,nw.loc⟩
 ·show .inr ⟨e,λcc hc=>nw.jV x cc e hc,nw.nc x e⟩
 ·show absurd e (nw.nf x)
def aiX:∀{l:List Nat}{es:List Expr},BP sc l es=true->∀x∈l,jR sc x (nm x)=true:=by
 intro zl;induction zl with
 |nil=>
  intro _ _ x hx;cases hx
 |cons y l ih=>
  intro es h x hx;show gG (P:=λ_=>jR sc x (nm x)=true) h λ_ _ a h=>(az.mp hx).elim (λe=>by rw[e];show a) (ih h x)
def ao8(h:BQ sc t tg=true):∀x∈t,jR sc x (nm x)=true:=by
 rcases dO.mp h with h | h
 ·show dy (P:=λ_=>∀x∈t,jR sc x (nm x)=true) h λ_ _ h=>dv h λy h x hx=>by
   rw[ku.mp hx];show jr (P:=λ_=>jR sc y (nm y)=true) h id
 ·show uG (P:=λ_=>∀x∈t,jR sc x (nm x)=true) h λ_ _ _ h=>fF h λ_ h=>aiX h
def bD.jt(h:bD vs xs):∀x∈xs,∀p b c,x≠.dz p b c:=by
 induction h with
 |nil=>intro x hx;cases hx
 |cons a _ ih=>
  intro x hx;rcases az.mp hx with rfl | hx
  ·show a.jt
  ·show ih x hx
def ajK{v:V}{K:Env->Prop}(I:Inv J w bz Y h)(r:VR rv v)(hb:jI t v m K Y):jI t v m (λm'=>K m'/\(jt m->jt m')) Y:=by
 exact LJ hb (λx _ hb=>⟨hb,λh=>h.up r.jt⟩) λa xs _ e _ hb=>⟨hb,λhn=>?_⟩;obtain⟨us,g,q⟩:=uM (I.rep _ _ e);have key:∀(ps:List (Nat×V)) (m:Env),(∀p∈ps,∀a b c,p.2≠.dz a b c)->jt m->jt (ps.foldl (λm p=>up m p.1 p.2) m):=by
  intro ps;induction ps with
  |nil=>intro m _ h;show h
  |cons p ps ih=>intro m hp h;show ih _ (λq hq=>hp q (.tail _ hq)) (h.up (hp p (.head _)))
 show key _ _ (λp hp=>q.jt _ (ky hp).2) hn
def U2{ex:Expr}{env:aD}(h:ns 7 ex=true)(x:Value):foldedSetIterable ex env x=pure x:=by
 induction ex using dC<;>first | rfl | show(aF h).elim
def amT{b:List Sm}(hb:uR b){F:dw}{f:Act}{s0:Shared}{I:Nat}{G:So->Prop}{St:Nat->Obj->Prop}{x:List Stmt}{N:Env->So->Prop}{R:V->So->Prop}
  (it:Aw J w bz I xs G St) (ht:BQ sc t tg=true) (hx:qR sc b x=true) (hs:s0.heap.get? I=none) (D7:bz.get? I=none) {RR:mR->Shared->Prop}{step:V->Env->(Env->So->Prop)->So->Prop} (w7:∀v m K s,step v m K s->jI t v m (λm'=>wSs W b m' K R bW s) s) (hN:∀s',GN J w bz F W A f sc Y0 s0 n N s'->RR (.ok .next) s') (hR:∀v s',GE J w bz Y0 s0 R v s'->RR (.ok (.ret v)) s') :
  ∀(r:List V) (i:Nat) (m:Env) (Y:So) (s:Shared) (o:Obj),xs.drop i=r->Cn J w bz F W A f sc m Y0 s0 Y s n->Nw f sc m s0->s.heap.get? I=some o->St i o->¬ bu Y s.heap I->Y I=none ->
   loop step G N r m Y->cW (ag J w) A (.forLoop tg (.ref I) x [] f.env) RR s:=by
 intro r;induction r with
 |nil=>
  intro i m Y s o hr c nw ho sI nm nr hw;obtain⟨q1,q2,q3⟩:=it.quiet i o sI;have cG:G Y/\N m Y:=hw;exact UY (it.done c.rm.handled c.at_ cG.1 ho sI (by have:=si.mp hr;show di this) λh' k=>?_);obtain⟨c',_⟩:=c.iter (tk:=s.toks) ho (.fields q3.choose_spec q2) nm nr D7 hs (show dY I s.heap h' from k);show hN _ ⟨m,Y,cG.2,c',nw⟩
 |cons v r ih=>
  intro i m Y s o hr c nw ho sI nm nr hw;obtain⟨q1,q2,q3⟩:=it.quiet i o sI;have bS:=w7 _ _ _ _ hw.2;have hG:G Y:=hw.1;clear hw;have hv:xs[i]?=some v:=by
   have:=congrArg (λl=>l[0]?) hr
   simpa using this
  have w8:xs.drop (i+1)=r:=by
   have:=congrArg (λl=>l.drop 1) hr
   simpa [sG] using this
  exact UY (it.next c.rm.handled c.at_ hG ho sI hv λrv o' h' tk nz k lM xa=>?_);obtain⟨c1,FQ⟩:=c.iter (tk:=tk) ho (.fields q3.choose_spec q2) nm nr D7 hs k;obtain⟨p1,p2,us,p3⟩:=it.quiet _ _ xa;exact UU it lM xa _ _ ?_;obtain⟨t0,c2,D8,k2,Mz,k3⟩:=rebase c1 nw;have U3:t0.heap.get? I=some o':=k2 I o' lM (U1 c1 lM (.fields p3 p2));exact UX c2 (D8.nwT (ao8 ht)) ht nz (ajK c1.at_.2.1 nz bS) λm' s2 zz c3=>?_;obtain⟨hK,AA⟩:=zz;have nw3:Nw f sc m' t0:=⟨D8.loc,D8.jV,λy hy=>AA (D8.nc y hy),D8.nf,D8.top⟩;exact aI (hb c3 nw3 hx hK) (λfl s3 q=>?_) λ_ _ q=>q.no;cases fl with
  |next=>
   obtain⟨m4,Y4,hl,c4,nw4⟩:=q;have S:=c4.at_.2.2;obtain⟨o4,e4,n4,u4⟩:=S.st I o' U3 λq=>FQ (Mz I q);have MA:o4=o':=by
    rcases u4 with u | u
    ·show u.elim
    ·show u.show λes ep z=>by nomatch p3,z
   rewrite [MA] at e4
   show ih (i+1) m4 Y4 s3 o' w8 ⟨c4.cx,c4.wo,c4.rm,c4.st,c4.lv,k3 _ _ c4.at_⟩ ⟨nw.loc,nw.jV,nw4.nc,nw.nf,nw.top⟩ e4 xa n4 (S.nw I o' U3 nr) hl
  |ret v=>
   obtain⟨x4,Y4,h1,h2,h3⟩:=q;show hR v s3 ⟨x4,Y4,h1,h2,k3 _ _ h3⟩
  |brk=>show q.elim
  |cont=>show q.elim
def alr{e:E}{b:List Sm}(he:FY e)(hb:uR b):SS (.cD t e b):=by
 intros;intro n c nw z aA N R X hw;exact K8 aA λtg it x _ pos h=>BL h λh1 h2 h3 h4 h5=>bq h4 ?_;have cG:vM W e m (wE W e m) (λvs G s=>loop (λv m K s=>jI t v m (λm'=>wSs W b m' K R bW s) s) G N vs m s) X Y:=hw;exact wpAny_For (he c h2 cG λI xs G St o Y' s' it hI st hl c' hn MB nr=>?_) (λx=>U2 h5 x);have hs:s0.heap.get? I=none:=by
  cases q:s0.heap.get? I with
  |none=>rfl
  |some o=>obtain⟨o',q'⟩:=c.at_.2.2.kp I o q;nomatch hn,q'
 have D7:bz.get? I=none:=by
  cases q:bz.get? I with
  |none=>rfl
  |some o=>have:=c.stays I o q;nomatch hn,this
 show amT hb it h1 h3 hs D7 (λ_ _ _ _ q=>q) (λs' q=>q) (λv s' q=>q) xs 0 m Y' s' o rfl c' nw hI st MB nr hl
def At.adopt{s0:Shared}{D:Nat}(x:At J w bz own Y0 s0 Y s)(hD:s.heap.get? D=some (gh vs n))(r:bD vs xs)(hl:xs.length<=200000)(nm:¬ bu Y s.heap D)(nr:Y D=none)(hs:s0.heap.get? D=none)(nb:bz.get? D=none):At J w bz own Y0 s0 (Tactic.put Y D (.lst xs)) s:=by
 obtain⟨e,I,S⟩:=x;have da:∀b d,dh (Tactic.put Y D (.lst xs)) s.heap b d↔dh Y s.heap b d:=by
  intro b d;constructor
  ·rintro⟨c,fs,ox,e,hx,hd⟩;clear hD hs nb nr;rcases lK e with⟨rfl,e'⟩ | ⟨aU,e'⟩
   ·cases e'
   ·show⟨c,fs,ox,e',hx,hd⟩
  ·rintro⟨c,fs,ox,e,hx,hd⟩;have aU:b≠D:=λq=>by subst q;nomatch nr,e
   show⟨c,fs,ox,by rw[ig aU];show e,hx,hd⟩
 have mu:∀b,bu (Tactic.put Y D (.lst xs)) s.heap b->b=D\/bu Y s.heap b:=by
  intro b m;unfold bu at m ⊢;simp only[da] at m;rcases m with⟨q,e,m⟩ | y
  ·clear da hD hs nb nr;rcases lK e with⟨rfl,_⟩ | ⟨_,e'⟩
   ·show .inl rfl
   ·show .inr (.inl ⟨q,e',m⟩)
  ·show .inr (.inr y)
 exact⟨e,⟨I.stays,λb q e=>?_,λb ob e m=>?_,λb d y=>?_,λb c d y z=>I.inj b c d ((da _ _).mp y) ((da _ _).mp z),I.tab⟩,⟨S.kp,λb o e nn=>?_,λb o e nn=>?_⟩⟩
 ·rcases lK e with⟨rfl,rfl⟩ | ⟨aU,e'⟩
  ·show .lst hD r hl
  ·show I.rep b q e'
 ·clear da hD hs nr;rcases mu b m with rfl | m
  ·nomatch nb,e
  ·show I.old b ob e m
 ·have y':=(da _ _).mp y;have aU:d≠D:=λq=>nm (q ▸ .inr (.inl ⟨b,y'⟩));rw[ig aU];show I.sep b d y'
 ·obtain⟨o',e',n',u⟩:=S.st b o e nn;exact⟨o',e',λm=>?_,u⟩;clear da hD nb nr;rcases mu b m with rfl | m
  ·nomatch hs,e
  ·show n' m
 ·rw[ig (λq=>by clear da hD mu nb nr;subst q;nomatch hs,e)]
  show S.nw b o e nn
def U4{R:mR->Shared->Prop}{elt target iter:Expr}{ifs:List Expr}{scope:Scope}{pos:Pos}{it acc:Value}{env:aD}
  (h:ae (ag J w) A (mS it) (λr s1=>match r with
   |none=>R (.ok .next) s1
   |some v=>ae (ag J w) A (mG target it v) (λ_ s1=>ae (ag J w) A (ew target env v) (λ_ s2=>
     ae (ag J w) A (forIn ifs true λc r=>if r=true then do let ok <-isTrue c env (eval c env);pure (gQ ok) else pure (gQ r)) (λok s3=>
      if ok=true then ae (ag J w) A (eval elt env) (λx s4=>
       ae (ag J w) A (call (.builtin "list.append") [acc,x]) (λ_ s5=>cW (ag J w) A (.compLoop (.ListComp elt [⟨target,iter,ifs,0⟩] scope pos) 0 it acc env) R s5) (dW (ag J w) A env λe s'=>R (.error e) s') s4) (dW (ag J w) A env λe s'=>R (.error e) s') s3
      else cW (ag J w) A (.compLoop (.ListComp elt [⟨target,iter,ifs,0⟩] scope pos) 0 it acc env) R s3) (dW (ag J w) A env λe s'=>R (.error e) s') s2) (dW (ag J w) A env λe s'=>R (.error e) s') s1) (dW (ag J w) A env λe s'=>R (.error e) s') s1) (dW (ag J w) A env λe s'=>R (.error e) s') s) :
  cW (ag J w) A (.compLoop (.ListComp elt [⟨target,iter,ifs,0⟩] scope pos) 0 it acc env) R s:=by
 exact tV ?_;show ae _ A ((compTurn (.ListComp elt [⟨target,iter,ifs,0⟩] scope pos) 0 it acc env).onRaise (λx=>do mL x env;t5 x)) _ _ s;exact uf ?_;rw[compTurn_list];exact ah (fZ (ah (aI h (λr s1 h1=>?_) λ_ _ h'=>h')));cases r with
 |none=>show aq h1
 |some v=>
  exact ah (aI h1 (λ_ s1 h1=>?_) λ_ _ h'=>h');exact ah (aI h1 (λ_ s2 h2=>ah (aI h2 (λok s3 h3=>?_) λ_ _ h'=>h')) λ_ _ h'=>h');cases ok with
  |false=>show aq ⟨rfl,h3⟩
  |true=>
   show ah (ah (aI h3 (λx s4 h4=>ah (aI h4 (λ_ s5 h5=>aq (aq ⟨rfl,h5⟩)) λ_ _ h'=>h')) λ_ _ h'=>h'))
def ajc{E:Value->Shared->Prop}{env:aD}{Q:Bool->Shared->Prop}(h:Q false s):∀fs:List Expr,ae (ag J w) A (forIn fs false λc r=>if r=true then do let ok <-isTrue c env (eval c env);pure (gQ ok) else pure (gQ r)) Q E s:=by
 intro zl;induction zl with
 |nil=>
  show aq h
 |cons zx r ih=>
  rw[o6];rw[if_neg aF];show ah (aq (ih))
def amF:∀{ifs:List E},(∀e∈ifs,SB e)->∀{F:dw}{W:Wo}{A:bp}{f:Act}{sc:Scope}{m:Env}{Y0 Y:So}{s0 s:Shared}{n:Nat},Cn J w bz F W A f sc m Y0 s0 Y s n->∀{fs:List Expr},d9 sc ifs fs=true->∀{K:Bool->So->Prop},DE W ifs m K Y->∀{P:Bool->Shared->Prop}{EE:Value->Shared->Prop},
  (∀b Y' s',K b Y'->Cn J w bz F W A f sc m Y0 s0 Y' s' n->P b s')->ae (ag J w) A (forIn fs true λc r=>if r=true then do let ok <-isTrue c f.env (eval c f.env);pure (gQ ok) else pure (gQ r)) P EE s:=by
 intro zl;induction zl with
 |nil=>
  intro _ F W A f sc m Y0 Y s0 s n c fs aA K hw P EE h;show bq aA (aq (h true Y s hw c))
 |cons e r ih=>
  intro hs F W A f sc m Y0 Y s0 s n c fs aA K hw P EE h;have cG:wB W e m (wE W e m) (λt s=>match t with
   |true=>DE W r m K s
   |false=>K false s) bW Y:=hw
  exact gH aA λx xs _ h1 h2=>?_;rw[o6];rw[if_pos rfl];exact ah (ah (aI (SB.then (hs e (.head _)) c h1 cG λb Y' s' hk c'=>?_) (λ_ _ q=>q) λ_ _ q=>q.no));exact aq ?_;cases b with
  |true=>show ih (λe he=>hs e (.tail _ he)) c' h2 hk h
  |false=>show ajc (h false Y' s' hk c') xs
def ajh{v:V}{K:Env->Prop}(hb:jI t v m K Y):jI t v m (λm'=>K m'/\∀y,y∉t->lk m' y=lk m y) Y:=by
 exact LJ hb (λx e hb=>⟨hb,λy hy=>by rw[jY,if_neg (λe'=>hy (by simp[e,e']))]⟩) λa xs _ _ hl hb=>⟨hb,λy hy=>?_⟩;have key:∀(ps:List (Nat×V)) (m:Env),y∉ps.map (·.1)->lk (ps.foldl (λm p=>up m p.1 p.2) m) y=lk m y:=by
  intro ps;induction ps with
  |nil=>intro m _;rfl
  |cons p ps ih=>
   intro m hp;rw[bQ,az,not_or] at hp;rw[yO,ih _ hp.2,jY,if_neg (aj hp.1)]
 show key _ _ (by rw[mw ⟨"A.B,B~A;1,-1",hl⟩];show hy)
theorem nZ.weak{f:Act}(L:nZ bz f m Y h)(e:∀x v,lk m' x=some v->lk m x=some v):nZ bz f m' Y h:=⟨L.ns,L.n8,L.Ap,L.jV,λx v hv hx=>L.loc x v hv (e x v hx),L.fH⟩
def Jr{I:Nat}{G:So->Prop}{St:Nat->Obj->Prop}(it:Aw J w bz I xs G St)(h:St i o):wZ o:=by
 obtain⟨_,q2,us,q3⟩:=it.quiet i o h;show .fields q3 q2
theorem MC(vs:List Value)(n:Nat):wZ (gh vs n):=⟨λ_ _ q=>(by cases q),λ_ q=>(by cases q),λ_ q=>(by cases q),λzz=>by obtain⟨_,_,_,q,_⟩:=zz;show(by cases q)⟩
structure Ce(bz:Heap)(Y:So)(s:Shared)(s0:Shared)(D:Nat)(o:Obj):Prop where
 get:s.heap.get? D=some o
 mu:¬ bu Y s.heap D
 non:Y D=none
 bz:bz.get? D=none
 start:s0.heap.get? D=none
def alG{a:E}(ha:SE a)(hi:∀e∈ifs,SB e){F:dw}{f:Act}{s0:Shared}{I D:Nat}{G:So->Prop}{St:Nat->Obj->Prop}{v iter:Expr}{fs:List Expr}{inner:Scope}{pos:Pos}{Q:List V->So->Prop}
  (it:Aw J w bz I xs G St) (ht:BQ sc t tg=true) (hif:d9 sc ifs fs=true) (hv:aW sc a v=true) (qX:∀x∈t,sc.names.lookup (nm x)=some .local) (hL:s0.heap.get? f.env.locals=none) (aU:D≠I) {RR:mR->Shared->Prop}{step:V->Env->(Option V->So->Prop)->So->Prop} (w7:∀v m K s,step v m K s->jI t v m (λm'=>DE W ifs m' (λb s=>match b with | true=>wE W a m' (λx s=>K (some x) s) bW s | false=>K aP s) s) s)
  (hN:∀s' Y' vs k acc,bD vs acc->acc.length<=xs.length->Q acc Y'->Cn J w bz F W A f sc (wX m t) Y0 s0 Y' s' n->Ce bz Y' s' s0 D (gh vs k)->RR (.ok .next) s') :
  ∀(r:List V) (i:Nat) (acc:List V) (vs:List Value) (k:Nat) (Y:So) (s:Shared) (o:Obj),xs.drop i=r->acc.length<=i->i<=xs.length->Cn J w bz F W A f sc (wX m t) Y0 s0 Y s n->Ce bz Y s s0 I o->St i o->Ce bz Y s s0 D (gh vs k)->bD vs acc ->
   gather step G m Q r acc Y->cW (ag J w) A (.compLoop (.ListComp v [⟨tg,iter,fs,0⟩] inner pos) 0 (.ref I) (.ref D) f.env) RR s:=by
 intro r;induction r with
 |nil=>
  intro i acc vs k Y s o hr uS AF c kI sI kD vX hw;have cG:G Y/\Q acc Y:=hw;exact U4 (it.done c.rm.handled c.at_ cG.1 kI.get sI (by have:=si.mp hr;show di this) λh' ke=>?_);obtain⟨c',_⟩:=c.iter (tk:=s.toks) kI.get (Jr it sI) kI.mu kI.non kI.bz kI.start (show dY I s.heap h' from ke);have mu:=F8 c.at_.2.1 kI.non (show dY I s.heap h' from ke);show hN _ Y vs k acc vX ⟨"A.B,A.C,C.B",uS,AF⟩ cG.2 c' ⟨ke _ _ aU kD.get,λq=>kD.mu ((mu _).mp q),kD.non,kD.bz,kD.start⟩
 |cons x r ih=>
  intro i acc vs k Y s o hr uS AF c kI sI kD vX hw;have hb:=w7 _ _ _ _ hw.2;have hG:G Y:=hw.1;clear hw;have hx:xs[i]?=some x:=by
   have:=congrArg (λl=>l[0]?) hr
   simpa using this
  have Cg:i+1<=xs.length:=(iY.mp hx).1;have w8:xs.drop (i+1)=r:=by
   have:=congrArg (λl=>l.drop 1) hr
   simpa [sG] using this
  exact U4 (it.next c.rm.handled c.at_ hG kI.get sI hx λrv o' h' tk nz ke lM xa=>?_);obtain⟨c1,FQ⟩:=c.iter (tk:=tk) kI.get (Jr it sI) kI.mu kI.non kI.bz kI.start ke;have mu:=F8 c.at_.2.1 kI.non ke;have U5:Ce bz Y { s with heap:=h',toks:=tk} s0 D (gh vs k):=⟨ke _ _ aU kD.get,λq=>kD.mu ((mu _).mp q),kD.non,kD.bz,kD.start⟩
  have U6:Ce bz Y { s with heap:=h',toks:=tk} s0 I o':=⟨lM,FQ,kI.non,kI.bz,kI.start⟩
  exact UU it lM xa _ _ ?_;obtain⟨t0,c2,Ga,k2,Mz,k3⟩:=U0 c1 hL;have keep:∀{b:Nat}{ob:Obj},Ce bz Y { s with heap:=h',toks:=tk} s0 b ob->wZ ob->∀{Y':So}{s':Shared},Step nil Y Y' t0.heap s'.heap->Ce bz Y' s' s0 b ob:=λ{b ob} kb ib {Y' s'} S=>by
   have h0:=k2 b ob kb.get (U1 c1 kb.get ib);obtain⟨o4,e4,n4,u4⟩:=S.st b ob h0 λq=>kb.mu (Mz b q);have MA:o4=ob:=by
    rcases u4 with u | u
    ·show u.elim
    ·show u.show ib.1
   show⟨MA ▸ e4,n4,S.nw b ob h0 kb.non,kb.bz,kb.start⟩
  exact UX c2 (λy hy=>.inl ⟨qX y hy,Ga _ (.head _)⟩) ht nz (ajh (ahv hb)) λm0 s2 zz c3=>?_;obtain⟨⟨m',hK,Gb⟩,wU⟩:=zz;have c3':Cn J w bz F W A f sc m' Y t0 Y s2 n:=c3.congr Gb;have weak:∀{Y' s'},Cn J w bz F W A f sc m' Y t0 Y' s' n->Cn J w bz F W A f sc (wX m t) Y0 s0 Y' s' n:=λ{Y' s'} c=>⟨c.cx,c.wo,c.rm,c.st,c.lv.weak (λy u hy=>by
   by_cases q:y∈t
   ·nomatch Jm,if_pos (by simpa using q),hy
   ·rw[Gb,wU y q];show hy),k3 _ _ c.at_⟩
  exact aI (amF hi c3' hif hK λb Y4 s4 U7 c4=>?_) (λ_ _ q=>q) λ_ _ (q:False)=>q.elim;cases b with
  |false=>
   rw[if_neg aF];have kI4:=keep U6 (Jr it xa) c4.at_.2.2;have kD4:=keep U5 (MC _ _) c4.at_.2.2;show ih (i+1) acc vs k Y4 s4 o' w8 ⟨"A.B+1,A.B",uS⟩ Cg (weak c4) kI4 xa kD4 vX U7
  |true=>
   rw[if_pos rfl];exact aI (ha.then c4 hv U7 λU8 y Y5 s5 MD hq c5=>?_) (λ_ _ q=>q) λ_ _ q=>q.no;have Gd:=keep U6 (Jr it xa) c5.at_.2.2;have vY:=keep U5 (MC _ _) c5.at_.2.2;have hlen:=vX.len;have B8:=it.small;exact wpAny_list_append_plain (l:=D) (items:=vs.toArray) ⟨k,vY.get⟩ (λh6 hp6 MF=>?_) (by rw[aM,hlen,cq];show⟨"A.16777216,A.B,B+1.C,C.300000",uS,Cg,B8⟩);obtain⟨k',e6⟩:=hp6;have e6':h6.get? D=some (gh (vs++[U8]) k'):=by rw[e6];simp
   obtain⟨c6,nm6⟩:=(weak c5).iter (tk:=s5.toks) vY.get (MC _ _) vY.mu vY.non vY.bz vY.start MF.extBut;have mu6:=F8 c5.at_.2.1 vY.non MF.extBut;exact ih (i+1) (acc++[y]) (vs++[U8]) k' Y5 _ o' w8 (by simp;show⟨"A.B,A.B",uS⟩) Cg c6 ⟨(MF.2 I (aj aU)).trans Gd.get,λq=>Gd.mu ((mu6 _).mp q),Gd.non,Gd.bz,Gd.start⟩ xa ⟨e6',nm6,vY.non,vY.bz,vY.start⟩ (vX.app (.cons MD .nil)) hq
set_option tactic.hygienic false
def alM:(lA.all λx=>!(ax x == (".0":Str)))=true:=by decide +kernel
def anW(k:Nat):nm k≠(".0":Str):=by
 rcases dq k 125 with h | h
 ·have hk:k<lA.length:=by rw[DK];show h
  have h1:=aY.mp alM lA[k] (gU hk);rw[DN h,fQ,aS hk]
  simpa using h1
 ·rw[DP h];have z1:(ax ".0").cps.size=2:=by decide +kernel
  intro e;have:=(congrArg (λx:Str=>x.cps.size) e).trans z1;simp at this;show⟨"_,125.A,A~2;0,1,1",h,this⟩
theorem amB{a:E}{src:E}{ex:Expr}(h:aW sc (.comp a t src ifs) ex=true):∃v tg it fs inner pos,ex=.ListComp v [⟨tg,it,fs,0⟩] inner pos/\Lp sc inner t=true/\BQ (nW sc inner) t tg=true/\(aW sc src it && ns 7 it)=true/\d9 (nW sc inner) ifs fs=true/\aW (nW sc inner) a v=true:=
 BD h λv _ i p h=>dv h λ⟨tg,it,fs,_⟩ h=>BM h λa b c d e f=>⟨v,tg,it,fs,i,p,congrArg (λz=>Expr.ListComp v [⟨tg,it,fs,z⟩] i p) (of_decide_eq_true b),a,c,d,e,f⟩
structure MG(sc inner:Scope)(t:List Nat):Prop where
 kind:inner.kind=.function
 n9:∀x∈inner.names,(x.2=.local/\(x.1=(".0":Str)\/∃k∈t,nm k=x.1)/\inner.names.lookup x.1=some .local)\/(x.2=.free/\(sc.names.lookup x.1=some .cell\/sc.names.lookup x.1=some .free))\/x.2=.globalImplicit
 loc:∀k∈t,inner.names.lookup (nm k)=some .local
def aj4{inner:Scope}(h:Lp sc inner t=true):MG sc inner t:=by
 exact ie h λh1 h2 h3=>⟨ie h1 λh _ _=>of_decide_eq_true h,λx hx=>?_,λk hk=>Ir (aY.mp h3 k hk)⟩;rcases wC (aY.mp h2 x hx) with⟨e,z⟩ | ⟨_,z⟩ | ⟨e,z⟩ | ⟨e,_⟩
 ·exact fF z λz1 z2=>.inl ⟨bR e,?_,Ir z2⟩;rcases dO.mp z1 with q | q
  ·show .inl (beq_iff_eq.mp q)
  ·obtain⟨k,hk,e'⟩:=mr.mp q;show .inr ⟨k,hk,beq_iff_eq.mp e'⟩
 ·cases z
 ·exact fF z λz1 _=>.inr (.inl ⟨bR e,?_⟩);rcases wC z1 with⟨_,h⟩ | h | h | ⟨_,h⟩
  ·cases h
  ·show .inl h.1
  ·show .inr h.1
  ·cases h
 ·show .inr (.inr (bR e))
def ahw{f:Act}{inner:Scope}(st:iB f sc):relabel inner f.env=nW sc inner:=by
 unfold relabel nW cY;rw[st.se]
def Js{inner:Scope}{x:Str}:(nW sc inner).names.lookup x=(inner.names.lookup x).map λk=>if k == .free && sc.kind == .function && sc.names.lookup x == some .cell then .cell else k:=by
 have z:∀l:List (Str×du),(l.map λ(n,k)=>if k == .free && sc.kind == .function && sc.names.lookup n == some .cell then (n,p6) else (n,k)).lookup x=(l.lookup x).map λk=>if k == .free && sc.kind == .function && sc.names.lookup x == some .cell then .cell else k:=by
  intro l;induction l with
  |nil=>rfl
  |cons p r ih=>
   obtain⟨n,k⟩:=p;have e:(if (k == .free && sc.kind == .function && sc.names.lookup n == some .cell)=true then (n,p6) else (n,k))=(n,if (k == .free && sc.kind == .function && sc.names.lookup n == some .cell)=true then p6 else k):=by split<;>rfl
   rw[bQ];show kz x ((if (k == .free && sc.kind == .function && sc.names.lookup n == some .cell)=true then (n,p6) else (n,k))::_)=_;rw[e,bA,bA];cases hx:x == n with
   |true=>
    have e:=beq_iff_eq.mp hx;clear hx;subst e;rfl
   |false=>show ih
 show z inner.names
def aiT{inner:Scope}(F:MG sc inner t){x:Nat}{k:du}(h:(nW sc inner).names.lookup (nm x)=some k)(hk:k=.local\/k=.cell\/k=.free):(k=.local/\x∈t)\/((k=.cell\/k=.free)/\(nm x,mZ)∈inner.names/\(sc.names.lookup (nm x)=some .cell\/sc.names.lookup (nm x)=some .free)):=by
 rw[Js] at h;cases e:inner.names.lookup (nm x) with
 |none=>nomatch e,h
 |some j=>
  rw[e,pq] at h;have hm:=mem_lookup e;rcases F.n9 _ hm with⟨e1,e2,_⟩ | ⟨e1,e2⟩ | e1
  ·dsimp only at e1;subst e1;have:k=.local:=by simpa using h.symm
   clear h hk;subst this;rcases e2 with e2 | ⟨y,hy,e2⟩
   ·show absurd e2 (anW x)
   ·show .inl ⟨rfl,BR e2 ▸ hy⟩
  ·dsimp only at e1;subst e1;exact .inr ⟨?_,hm,e2⟩;have h':=bR h;split at h'
   ·show .inl h'.symm
   ·show .inr h'.symm
  ·dsimp only at e1;subst e1;have:k=.globalImplicit:=by simpa using h.symm
   subst this;rcases hk with hk | hk | hk<;>cases hk
def ai1{inner:Scope}(F:MG sc inner t){x:Str}(h:(nW sc inner).names.lookup x=some .cell\/(nW sc inner).names.lookup x=some .free):(x,mZ)∈inner.names:=by
 rw[Js] at h;cases e:inner.names.lookup x with
 |none=>rw[e] at h;rcases h with h | h<;>cases h
 |some j=>
  rw[e,pq] at h;have hm:=mem_lookup e;rcases F.n9 _ hm with⟨e1,e2,_⟩ | ⟨e1,e2⟩ | e1
  ·dsimp only at e1;clear e e2 hm;subst e1;rcases h with h | h<;>simp at h
  ·dsimp only at e1;clear e e2 h;subst e1;show hm
  ·dsimp only at e1;subst e1;rcases h with h | h<;>simp at h
def al3{a:E}{src:E}(ha:SE a)(hs:FY src)(hi:∀e∈ifs,SB e):SE (.comp a t src ifs):=by
 intros;intro n c ex aA Q X hw;obtain⟨v,tg,it,fs,inner,pos,rfl,h1,h2,h3,h4,h5⟩:=amB aA;have IF:=aj4 h1;have cG:vM W src m (wE W src m) (λvs G s=>gather (λv m K s=>jI t v m (λm'=>DE W ifs m' (λb s=>match b with
    |true=>wE W a m' (λx s=>K (some x) s) bW s
    |false=>K aP s) s) s) G m (λxs s=>xs.length<big/\new (.lst xs) Q s) vs [] s) X Y:=hw
 have c0:=c.here;obtain⟨cl,iR,wR,Ge⟩:=T7 (scope:=inner) (env:=f.env) λp hp he=>by
  rcases IF.n9 p hp with⟨e,_⟩ | ⟨_,e⟩ | e
  ·nomatch e,he
  ·show c.st.cin _ e
  ·nomatch e,he
 have oa:∀x cc,cl.lookup x=some cc->f.env.cells.lookup x=some cc:=λx cc h=>(Ge x cc h).2;exact aI (Q:=GE J w bz Y s Q) (E:=BE J w bz F f.fl Y s X) ?_ (λv s' zz=>by obtain⟨x,Y',q1,q2,q3⟩:=zz;show⟨x,Y',q1,q2,c.at_.trans q3⟩) λ_ _ z=>z.from c.at_;rw[eval_ListComp];exact wpAny_comprehension_free (use:=none) (gs:=[]) rfl (λx=>U2 (dN.mp h3).2 x) iR IF.kind (λx hx hl=>?_) (hs c0 (dN.mp h3).1 cG λI xs G St o Y' s' iter hI sI hg c' hn MB nr=>?_)
 ·rcases IF.n9 x hx with⟨_,_,e⟩ | ⟨e,_⟩ | e
  ·show e
  ·nomatch e,hl
  ·nomatch e,hl
 exact mI (tJ (s:={ s' with heap:=s'.heap.push { cls:=.type "list",data:=.seq ([]:List Value).toArray}}) (λx hx e=>?_) (by intro y hy;simp at hy) (λh₁ nu vZ=>?_) IF.kind)
 ·rcases IF.n9 x hx with⟨q,_⟩ | ⟨q,_⟩ | q<;>rw[q] at e<;>cases e
 dsimp only at nu vZ ⊢;generalize MH:s'.heap.push { cls:=.type "list",data:=.seq ([]:List Value).toArray}=H2 at nu vZ ⊢
 have hC:H2.objs.size=s'.heap.objs.size+1:=by rw[<-MH,mX]
 have hD2:H2.get? s'.heap.objs.size=some (gh [] 0):=MH ▸ cJ _ rfl;have hDC:s'.heap.objs.size≠H2.objs.size:=by rw[hC];show b9 (Nat.lt_succ_self _)
 have old:∀b o,H2.get? b=some o->h₁.get? b=some o:=λb o e=>vZ.extBut b o (b9 (bM e)) (aZ _ e);have gr:Grows s'.heap h₁:=λb o e=>old b o (MH ▸ aZ _ e);have I':=c'.at_.2.1;have cN:Cn J w bz F W A f sc m Y s Y' { s' with heap:=h₁,toks:=s'.toks+([]:List (Str×Value)).length} n:=c'.go ((At.refl I').grow gr)
 have fr:∀b,s'.heap.get? b=none->s.heap.get? b=none/\bz.get? b=none/\Y' b=none/\¬ bu Y' h₁ b:=λb hb=>by
  exact⟨?_,?_,I'.unset hb,DY I' (λb o e=>⟨o,gr b o e,λ_ _ _=>rfl⟩) hb⟩
  ·cases q:s.heap.get? b with
   |none=>rfl
   |some o=>obtain⟨o',q'⟩:=c'.at_.2.2.kp b o q;nomatch hb,q'
  ·cases q:bz.get? b with
   |none=>rfl
   |some o=>have:=c'.stays b o q;nomatch hb,this
 obtain⟨fd1,fd2,fd3,fd4⟩:=fr s'.heap.objs.size (nY _);obtain⟨U9,Va,fc3,fc4⟩:=fr H2.objs.size (gf (by rw[hC];show i6 _));have hDI:s'.heap.objs.size≠I:=λq=>absurd (bM hI) (by rw[<-q];show kC _);have D7:bz.get? I=none:=by
  cases q:bz.get? I with
  |none=>rfl
  |some o=>have:=c.stays I o q;nomatch hn,this
 have stI:iB ⟨jd inner cl H2.objs.size f.env,f.fl⟩ (nW sc inner):=by
  exact⟨ahw c.st,IF.kind,c.st.gl,c.st.bi,?_,λx y cc hx hy=>c.st.inj x y cc (oa _ _ hx) (oa _ _ hy),λx hx=>?_⟩
  ·rcases c.st.S9 with q | q
   ·left;intro x hx;rw[Js] at hx;cases e:inner.names.lookup x with
    |none=>nomatch e,hx
    |some j=>
     rw[e,pq] at hx;have ju:=bR hx;split at ju
     ·rename_i hc;simp only[bx,beq_iff_eq] at hc;show q x hc.2
     ·subst ju;rcases IF.n9 _ (mem_lookup e) with⟨e,_⟩ | ⟨e,_⟩ | e<;>cases e
   ·show .inr q
  have hm:=ai1 IF hx;rcases IF.n9 _ hm with⟨q,_⟩ | ⟨_,e⟩ | q
  ·cases q
  ·obtain⟨cc,hc⟩:=c.st.cin _ e;show⟨cc,(wR _ hm).trans hc⟩
  ·cases q
 have MJ:h₁.Ns H2.objs.size (λ_=>none):=by
  obtain⟨o,es,ep,q1,q2,q3,q4⟩:=nu;show⟨o,es,ep,q1,q2,q3,q4⟩
 have lvI:nZ bz ⟨jd inner cl H2.objs.size f.env,f.fl⟩ (wX m t) Y' h₁:=by
  exact⟨⟨_,MJ⟩,fc4,Va,λx cc hx=>cN.lv.jV x cc (oa _ _ hx),λx u hv hx=>?_,cN.lv.fH⟩;have Vb:x∉t:=λq=>by nomatch Jm,if_pos (by simpa using q),hx
  rw[Jm,if_neg (by simpa using Vb)] at hx;have qg:∃k,(nW sc inner).names.lookup (nm x)=some k/\(k=.local\/k=.cell\/k=.free):=by
   have e:=stI.se;unfold BW cY at hv;rw[e] at hv;rcases Iw hv with e | ⟨e,_⟩ | ⟨e,_⟩
   ·show⟨_,e,.inl rfl⟩
   ·show⟨_,e,.inr (.inl rfl)⟩
   ·show⟨_,e,.inr (.inr rfl)⟩
  obtain⟨k,Ci,jZ⟩:=qg;rcases aiT IF Ci jZ with⟨_,q⟩ | ⟨q1,q2,q3⟩
  ·show absurd q Vb
  ·have vis:BW f.env (nm x)=true:=by
    unfold BW cY;rw[c.st.se];rcases q3 with q | q<;>rw[q]<;>rfl
   have L:=cN.lv.loc x u vis hx;have Gf:∀vv,iO h₁ f.env (nm x) vv->iO h₁ (jd inner cl H2.objs.size f.env) (nm x) vv:=λvv H=>by
    rcases H with⟨e1,_⟩ | ⟨_,cc,e2,e3⟩
    ·unfold cY at e1;rw[c.st.se] at e1;rcases q3 with q | q<;>rw[q] at e1<;>cases e1
    ·exact .inr ⟨?_,cc,(wR _ q2).trans e2,e3⟩;have:(jd inner cl H2.objs.size f.env).kindOf (nm x)=some k:=by
      unfold cY;show(congrArg (λz:Scope=>z.names.lookup (nm x)) stI.se).trans Ci
     rw[this];show q1.imp (congrArg some) (congrArg some)
   unfold Loc at L ⊢;split at L
   ·obtain⟨fa,e1,e2⟩:=L;show⟨fa,Gf _ e1,e2⟩
   ·obtain⟨rv,e1,e2⟩:=L;show⟨rv,Gf _ e1,e2⟩
 have cI:Cn J w bz F W A ⟨jd inner cl H2.objs.size f.env,f.fl⟩ (nW sc inner) (wX m t) Y s Y' { s' with heap:=h₁,toks:=s'.toks+([]:List (Str×Value)).length} n:=
  ⟨c.cx,c.wo,⟨c.rm.handled,c.rm.frames,c.rm.depth,c.rm.units⟩,stI,lvI,cN.at_⟩
 have main:cW (ag J w) A (.compLoop (.ListComp v [⟨tg,it,fs,0⟩] inner pos) 0 (.ref I) (.ref s'.heap.objs.size) (jd inner cl H2.objs.size f.env))
   (compPost (ag J w) A (BE J w bz F f.fl Y s X) none (GE J w bz Y s Q) (.ref s'.heap.objs.size) H2.objs.size) { s' with heap:=h₁,toks:=s'.toks+([]:List (Str×Value)).length}:=by
  exact alG (f:=⟨jd inner cl H2.objs.size f.env,f.fl⟩) ha hi iter h2 h4 h5 (λx hx=>?_) U9 hDI (λ_ _ _ _ q=>q) (λs2 Y2 vs k acc vX hlen hq c2 kD=>?_) xs 0 [] [] 0 Y' _ o rfl (cy _) (fh _) cI ⟨gr _ _ hI,λq=>MB ((bu.grow I' gr).mp q),nr,D7,hn⟩ sI ⟨old _ _ hD2,fd4,fd3,fd2,fd1⟩ .nil hg
  ·rw[Js,IF.loc x hx];rfl
  ·obtain⟨mm,Gb⟩:=c2.lv.ns;exact⟨mm,Gb,λh'' sb=>?_⟩;obtain⟨oL,es,ep,hL,hd,_⟩:=id Gb;have n8:=c2.lv.n8;have Gh:=aba c2.at_.2.1 hL (.inl ⟨es,ep,hd⟩) n8;obtain⟨a2,_⟩:=c2.at_.Jl (tk:=s2.toks) hL n8 U9 Va Gh (λzz=>by obtain⟨us,q,t,e1,_⟩:=zz;nomatch hd,e1) sb.extBut
   have mu:=F8 c2.at_.2.1 Gh sb.extBut;have hb:acc.length<100000:=hq.1;have a3:=At.adopt (s:={ s2 with heap:=h'',toks:=s2.toks}) a2 ((sb.2 _ hDC).trans kD.get) vX ⟨"A.200000,A>100000",hq.1⟩ (λq=>kD.mu ((mu _).mp q)) kD.non kD.start kD.bz
   show⟨.ref _,_,.ref _,hq.2 _ kD.non,a3⟩
 show codeAny_compStart_list main (iter.self (gr _ _ hI) sI main)
def Vc{ns:List Str}{vals:List Value}(h:vals.length=ns.length)(n)(hn:n∈ns):((ns.zip vals).lookup n).isSome=true:=by
 induction ns generalizing vals with
 |nil=>show E0 hn
 |cons m ns ih=>
  cases vals with
  |nil=>cases h
  |cons v vals=>
   rw[dQ,bA];cases q:n == m with
   |true=>rfl
   |false=>
    rcases az.mp hn with e | e
    ·rw[e] at q;simp at q
    ·show ih (fX h) e
def Vd{ns:List Str}{vals:List Value}(h:vals.length=ns.length)(nd:ns.Nodup)(l:List (Str×Value))(hl:∀n∈ns,l.lookup n=(ns.zip vals).lookup n):ns.filterMap (λn=>(l.lookup n).map (n,·))=ns.zip vals:=by
 induction ns generalizing vals with
 |nil=>cases vals with
  |nil=>rfl
  |cons _ _=>cases h
 |cons m ns ih=>cases vals with
  |nil=>cases h
  |cons v vals=>
   rw[aX] at nd;rw[oS,hl m (.head _),dQ,bA];simp only[beq_self_eq_true,pq];rw[ih (fX h) nd.2 λn hn=>?_];rw[hl n (.tail _ hn),dQ,bA];have:(n == m)=false:=by
    rw[beq_eq_false_iff_ne];intro e;show nd.1 (e ▸ hn)
   rw[this]
 def Gi (x:Str×Value) (s:List (Str×Value)):Sem (ForInStep (List (Str×Value))):=if (kz x.fst s).isNone=true then pure (.yield (s++[(x.fst,x.snd)])) else pure (.yield s)
 def bk (E1 E2:Option (Array Value)->Sem (List (Str×Value))) (ns:List Str) (vals:List Value) (o:Option (Array Value)):Sem (List (Str×Value)):=
  if (decide (vals.length > ns.length) && (none:Option Arg).isNone)=true then E1 o
  else if (!((ns.take (ns.length-((o.getD #[]).toList.drop ((o.getD #[]).toList.length-ns.length)).length)).filter λn=>((ns.zip vals).lookup n).isNone).isEmpty)=true then E2 o
  else forIn ((ns.drop (ns.length-((o.getD #[]).toList.drop ((o.getD #[]).toList.length-ns.length)).length)).zip ((o.getD #[]).toList.drop ((o.getD #[]).toList.length-ns.length))) (ns.zip vals) Gi >>= λs=>pure ((ns++[]).filterMap λn=>(s.lookup n).map (n,·))
def Ve{fd:FuncData}{vals:List Value}(h1:fd.params.posonlyargs=[])(h3:fd.params.vararg=none)(h4:fd.params.kwonlyargs=[])(h5:fd.params.kwarg=none):∃E1 E2,bindArgs fd ⟨vals,[]⟩=seqItems? fd.defaults >>= bk E1 E2 (fd.params.args.map (·.arg)) vals:=by
 obtain⟨fn,qn,⟨po,ar,va,ko,kd,kw,df⟩,body,sc,gl,dz,dflt,kwd,doc,pmod,ann,code,ct,bt⟩:=fd;dsimp only at h1 h3 h4 h5;subst h1 h3 h4 h5;show⟨_,_,rfl⟩
def Vf{E1 E2:Option (Array Value)->Sem (List (Str×Value))}{ns:List Str}{vals:List Value}{o:Option (Array Value)}{dd:List Value}(hd:(o.getD #[]).toList=dd)(hl:¬ vals.length > ns.length)(FW:dd.length<=ns.length)(hm:∀n∈ns.take (ns.length-dd.length),((ns.zip vals).lookup n).isNone=false):bk E1 E2 ns vals o=forIn ((ns.drop (ns.length-dd.length)).zip dd) (ns.zip vals) Gi >>= λs=>pure ((ns++[]).filterMap λn=>(s.lookup n).map (n,·)):=by
 subst hd;unfold bk;rw[if_neg (λh=>hl (of_decide_eq_true (bx _ _ ▸ h).1)),Nat.sub_eq_zero_of_le FW,List.drop_zero,List.filter_eq_nil_iff.mpr λn hn=>by rw[hm n hn];show aF];rfl
def Vg{ns:List Str}{vals:List Value}{n:Str}(h:((ns.zip vals).lookup n).isSome=true):((ns.zip vals).lookup n).isNone=false:=by
 cases q:(ns.zip vals).lookup n with
 |none=>nomatch q,h
 |some _=>rfl
def bind_none{fd:FuncData}{ns:List Str}{vals:List Value}(h1:fd.params.posonlyargs=[])(h2:fd.params.args.map (·.arg)=ns)(h3:fd.params.vararg=none)(h4:fd.params.kwonlyargs=[])(h5:fd.params.kwarg=none)(hd:fd.defaults=.none)(hl:vals.length=ns.length)(nd:ns.Nodup):bindArgs fd ⟨vals,[]⟩=pure (ns.zip vals):=by
 obtain⟨E1,E2,e⟩:=Ve (vals:=vals) h1 h3 h4 h5;rw[e,h2,hd];show bk E1 E2 ns vals none=_;rw[Vf (dd:=[]) rfl (by rw[hl];show kC _) (fh _) λn hn=>Vg (Vc hl n (List.mem_of_mem_take hn)),List.zip_nil_right,bG];show congrArg (Pure.pure (f:=Sem)) (Vd hl nd (ns.zip vals) λn hn=>rfl)
def ael{ns:List Str}{vals:List Value}{x:Str}{d:Value}(h:vals.length=ns.length)(hx:x∉ns):((ns++[x]).zip vals).lookup x=none/\((ns++[x]).zip vals)=ns.zip vals/\(ns++[x]).zip (vals++[d])=ns.zip vals++[(x,d)]:=by
 induction ns generalizing vals with
 |nil=>cases vals with
  |nil=>show⟨rfl,rfl,rfl⟩
  |cons _ _=>cases h
 |cons m ns ih=>cases vals with
  |nil=>cases h
  |cons v vals=>
   obtain⟨a,b,c⟩:=ih (fX h) λq=>hx (.tail _ q);have:(x == m)=false:=by rw[beq_eq_false_iff_ne];intro e;show hx (e ▸ .head _)
   exact⟨?_,?_,?_⟩
   ·rw[fU,dQ,bA,this];show a
   ·rw[fU,dQ,b,dQ]
   ·rw[fU,fU,dQ,c,dQ,fU]
def agM{l:List (Str×Value)}{x n:Str}{d:Value}:(l++[(x,d)]).lookup n=match l.lookup n with | some v=>some v | none=>if n == x then some d else none:=by
 induction l with
 |nil=>rw[o7,bA];cases q:n == x<;>rfl
 |cons p r ih=>
  obtain⟨y,v⟩:=p;rw[fU,bA,bA];cases n == y<;>simp[ih]
def aiH{fd:FuncData}{ns:List Str}{x:Str}{vals:List Value}{d:Value}{T:Nat}(h1:fd.params.posonlyargs=[])(h2:fd.params.args.map (·.arg)=ns++[x])(h3:fd.params.vararg=none)(h4:fd.params.kwonlyargs=[])(h5:fd.params.kwarg=none)(hd:fd.defaults=.ref T)(ho:s.heap.get? T=some o)(hs:o.data=.seq #[d] n)(hl:vals.length=ns.length)(nd:(ns++[x]).Nodup):BindsTo s fd ⟨vals,[]⟩ ((ns++[x]).zip (vals++[d])):=by
 obtain⟨E1,E2,e⟩:=Ve (vals:=vals) h1 h3 h4 h5;have hx:x∉ns:=λq=>by
  rw[bF] at nd;show nd.2.2 x q x (.head _) rfl
 obtain⟨z1,z2,z3⟩:=ael (d:=d) hl hx;have hn:(ns++[x]).length-1=ns.length:=by rw[cR];rfl
 exact BindsTo.of_defaults hd ho hs (h2 ▸ e) ?_;rw[Vf (dd:=[d]) rfl (by rw[cR,hl];show kF.mpr (i6 _)) (by rw[cR];show Nat.le_add_left _ _) λn lL=>by
  rw[z2];show Vg (Vc hl n (by rw[show(ns++[x]).length - [d].length=ns.length from hn,List.take_left] at lL;show lL))]
 rw[show(ns++[x]).length - [d].length=ns.length from hn,List.drop_left,bG];show(forIn [(x,d)] ((ns++[x]).zip vals) Gi >>= _)=_;rw[o6,show Gi (x,d) ((ns++[x]).zip vals)=pure (.yield ((ns++[x]).zip vals++[(x,d)])) by unfold Gi;rw[if_pos (by rw[z1];rfl)]];show congrArg (Pure.pure (f:=Sem)) (Vd (ns:=ns++[x]) (vals:=vals++[d]) (by rw[cR,cR,hl];rfl) nd _ λn hn=>by rw[z3,z2])
def Gj(xs:List V):Bool:=xs.all λx=>match x with
 | .dz _ _ _=>false
 |_=>true
def aoZ(W:Wo)(i:Nat)(fd:Fd)(vs:List V)(Q:V->So->Prop)(X:Nat->So->Prop)(s:So):Prop:=vJ (ai (vs.length+fd.ki.length) fd.aw.length) (vJ (Gj vs || ai i 26) (wSs W fd.body (ups fd.aw (vs++fd.ki) []) (λ_ s=>Q .none s) Q X s))
def MK(W:Wo)(aw:List Nat)(b:E)(aG:Env)(vs:List V)(Q:V->So->Prop)(s:So):Prop:=vJ (ai vs.length aw.length) (vJ (Gj vs && ai aw.length 1) (wE W b (ups aw vs aG) Q bW s))
def Jt(c k:Nat):Option Nat:=(mT.find? λp=>ai p.1 c && ai p.2.1 k).map (·.2.2)
def Ju(c:Nat):Option Nat:=(kT.find? λp=>ai p.1 c).map (·.2)
def Wn:Nat->Wo
 |0=>⟨vS,Jt,Ju,λ_ _ _ _ _=>False,λ_ _ _ _ _ _=>False⟩
 |n+1=>⟨vS,Jt,Ju,λi vs Q X s=>qc fns[i]? λfd=>aoZ (Wn n) i fd vs Q X s,MK (Wn n)⟩
def Vh{c k f:Nat}(h:Jt c k=some f):(c,k,f)∈mT:=by
 unfold Jt at h;obtain⟨p,hp,rfl⟩:=mC.mp h;have h1:=o5 hp
 rewrite [bx] at h1
 have e1:=bL h1.1;have e2:=bL h1.2;subst e1;clear h h1;subst e2;show lV hp
def Vi{c f:Nat}(h:Ju c=some f):(c,f)∈kT:=by
 unfold Ju at h;obtain⟨p,hp,rfl⟩:=mC.mp h;have h1:=o5 hp;have e1:=bL h1;subst e1;show lV hp
def ML{l:List FR}{k:List Fd}(h:IC l k=true)(e:k[i]?=some fd):∃r,l[i]?=some r/\IB r fd=true:=by
 induction l generalizing k i with
 |nil=>cases k with
  |nil=>cases e
  |cons _ _=>cases h
 |cons r l ih=>cases k with
  |nil=>cases h
  |cons f k=>
   have h':(IB r f && IC l k)=true:=h
   rewrite [bx] at h'
   cases i with
   |zero=>simp at e;subst e;show⟨r,rfl,h'.1⟩
   |succ i=>show ih h'.2 (by simpa using e)
theorem AG{f:Nat->Obj}:∀{l:List Nat}{a:Nat},a∈l->(l.map λa=>(a,f a)).lookup a=some (f a)
 |b::r,a,h=>by
  rw[bQ,bA];cases q:a == b with
  |true=>rw[beq_iff_eq.mp q]
  |false=>
   rcases az.mp h with e | e
   ·rewrite [e] at q;simp at q
   ·show AG e
def MN(cx:Cx w bz){r:FR}(h:r∈fT):bz.get? r.a=some (Fn r.nm r.ql r.st r.dV r.pm (.ref r.cd)):=by
 have h1:=aY.mp S6 r h
 rewrite [bx] at h1
 have h2:r.a∈kA:=gS.mp h1.1;have h3:=cx.k _ _ (AG (f:=iA w.params) h2);rw[h3];show congrArg some (oW.mp (anl w.params) _ h)
def Vj:Value->Nat
 | .none=>0
 | .ref a=>a
 |_=>1
def Gk(n:Nat):List V×Value:=bif ai n 0 then ([],.none) else bif ai n 687 then ([.int 8],.ref 687) else ([.bool false],.ref 847)
def anV(n:Nat):Gk n=([],.none)\/Gk n=([.int 8],.ref 687)\/Gk n=([.bool false],.ref 847):=by
 unfold Gk;cases n.beq 0 with
 |true=>show .inl rfl
 |false=>cases n.beq 687 with
  |true=>show .inr (.inl rfl)
  |false=>show .inr (.inr rfl)
def anu:((fT.zip fns).map λp=>(p.2.ki,p.1.dV))=(fT.zip fns).map λp=>Gk (Vj p.1.dV):=by kernel_rfl
def an0(P:ak):iA P 687=T [It 8 1128]:=by kernel_rfl
def amS(P:ak):iA P 847=T [B false]:=by kernel_rfl
def Vk:(kA.contains 687 && kA.contains 847)=true:=by decide +kernel
def Vl:(fns.all λf=>decide f.aw.Nodup)=true:=by decide +kernel
def Vm{l:List Nat}{as:List Arg}(h:DH l as=true):as.map (·.arg)=l.map nm:=by
 induction l generalizing as with
 |nil=>cases as with
  |nil=>rfl
  |cons _ _=>cases h
 |cons x r ih=>cases as with
  |nil=>cases h
  |cons a l=>
   obtain⟨n,an,p⟩:=a;cases an with
   |some _=>cases h
   |none=>
    have h':(n == nm x && DH r l)=true:=h
    rewrite [bx] at h'
    rw[bQ,bQ,ih h'.2,beq_iff_eq.mp h'.1]
def Jv{l:List Nat}(h:l.Nodup):(l.map nm).Nodup:=by
 induction l with
 |nil=>show o9
 |cons x r ih=>
  rewrite [aX] at h
  rw[bQ,aX];exact⟨λq=>?_,ih h.2⟩;obtain⟨y,hy,e⟩:=aQ.mp q;show h.1 (BR e ▸ hy)
structure Vn(r:FR)(fd:Fd):Prop where
 p1:(rC r.st).posonlyargs=[]
 p2:(rC r.st).args.map (·.arg)=fd.aw.map nm
 p3:(rC r.st).vararg=none
 p4:(rC r.st).kwonlyargs=[]
 p5:(rC r.st).kwarg=none
 kind:(eW r.st).kind=.function
 gen:(eW r.st).isGenerator=false
 Vo:(eW r.st).isCoroutine=false
 rM:∀k∈fd.aw,(eW r.st).names.lookup (nm k)=some .local\/(eW r.st).names.lookup (nm k)=some .cell
 n9:∀x k,(eW r.st).names.lookup x=some k->k=.local\/k=.cell\/k=.globalImplicit
 body:qR (eW r.st) fd.body (vG r.st)=true
theorem Vp(h:DI ar=true):ar.posonlyargs=[]/\ar.vararg=none/\ar.kwonlyargs=[]/\ar.kwarg=none:=
 BL h λh1 h2 h3 _ h5=>⟨oY.mp h1,sW.mp h2,oY.mp h3,sW.mp h5⟩
theorem Vq(h:Fs sc=true):sc.kind=.function/\sc.isGenerator=false/\sc.isCoroutine=false:=
 ie h λa b c=>⟨of_decide_eq_true a,by simpa using b,by simpa using c⟩
def Vr{r:FR}(h:IB r fd=true):Vn r fd:=by
 exact BK h λh h5 h6 h7=>BK h λh1 h2 _ h4=>?_;obtain⟨a1,a2,a3,a4⟩:=Vp h1;obtain⟨b1,b2,b3⟩:=Vq h4;exact⟨a1,Vm h2,a2,a3,a4,b1,b2,b3,λk hk=>?_,λx k hx=>?_,h7⟩
 ·rcases Iw (aY.mp h5 k hk) with e | ⟨e,_⟩ | ⟨_,h⟩
  ·show .inl e
  ·show .inr e
  ·cases h
 ·rcases wC (aY.mp h6 _ (mem_lookup hx)) with⟨e,_⟩ | ⟨e,_⟩ | ⟨_,h⟩ | ⟨e,_⟩
  ·show .inl (bR e)
  ·show .inr (.inl (bR e))
  ·cases h
  ·show .inr (.inr (bR e))
def fdOf(r:FR):FuncData:={ name:=ax r.nm,qualname:=ax r.ql,params:=rC r.st,body:=.stmts (vG r.st),scope:=eW r.st,globals:=3,closure:=[],defaults:=r.dV,kwdefaults:=.none,pyModule:=r.pm,code:=.ref r.cd}
def Vs(cx:Cx w bz){r:FR}(hr:fT[i]?=some r)(hf:fns[i]?=some fd)(F:Vn r fd)(k:bz.StaysIn s.heap)(hl:vs.length+fd.ki.length=fd.aw.length):∃ds,bD ds fd.ki/\BindsTo s (fdOf r) ⟨vs,[]⟩ ((fd.aw.map nm).zip (vs++ds)):=by
 have nd:(fd.aw.map nm).Nodup:=Jv (by simpa using aY.mp Vl fd (dp hf));have hz:(r,fd)∈fT.zip fns:=by
  exact dp (i:=i) ?_;rw[List.getElem?_zip_eq_some];show⟨hr,hf⟩
 have hd:=oW.mp anu _ hz;have dflt:∀(T':Nat) (d:Value) (o:Obj),r.dV=.ref T'->s.heap.get? T'=some o->o.data=.seq #[d] 0->fd.ki.length=1->BindsTo s (fdOf r) ⟨vs,[]⟩ ((fd.aw.map nm).zip (vs++[d])):=λT' d o h1 h2 h3 h4=>by
  have aU:fd.aw≠[]:=λq=>by rewrite [q,h4] at hl;simp at hl
  obtain⟨ns,x,e⟩:∃ns x,fd.aw.map nm=ns++[x]:=by
   exact⟨(fd.aw.map nm).dropLast,(fd.aw.map nm).getLast (by simpa using aU),(kr _).symm⟩
  rw[e] at nd ⊢;exact aiH (fd:=fdOf r) F.p1 (F.p2.trans e) F.p3 F.p4 F.p5 h1 h2 h3 ?_ nd;have:=congrArg dS e;simp at this;show⟨"A~B,A+C~D,C~1,D~B+1;1,1,-1,1;1,-1,1,-1",hl,h4,this⟩
 have MP:s.heap.get? 687=some (T [It 8 1128]):=by
  have:=Vk
  rewrite [bx] at this
  have h3:=cx.k _ _ (AG (f:=iA w.params) (gS.mp this.1))
  rewrite [an0] at h3
  show k _ _ h3
 have MQ:s.heap.get? 847=some (T [B false]):=by
  have:=Vk
  rewrite [bx] at this
  have h3:=cx.k _ _ (AG (f:=iA w.params) (gS.mp this.2))
  rewrite [amS] at h3
  show k _ _ h3
 rcases anV (Vj r.dV) with e | e | e
 ·obtain⟨e,z⟩:=Prod.mk.inj (hd.trans e);have e:fd.ki=[]:=e;rw[e] at hl ⊢;exact⟨[],.nil,.of_eq ?_⟩;rw[bG];show bind_none (fd:=fdOf r) F.p1 F.p2 F.p3 F.p4 F.p5 z (by rw[bP];show hl) nd
 ·obtain⟨e,z⟩:=Prod.mk.inj (hd.trans e);show⟨[It 8 1128],by rw[show fd.ki=_ from e];show .cons (.int _ _) .nil,dflt 687 _ _ z MP rfl (congrArg dS e)⟩
 ·obtain⟨e,z⟩:=Prod.mk.inj (hd.trans e);show⟨[B false],by rw[show fd.ki=_ from e];show .cons (.bool _) .nil,dflt 847 _ _ z MQ rfl (congrArg dS e)⟩
set_option tactic.hygienic true
structure Vt(J:Program)(w:aK)(bz:Heap)(F:dw):Prop where
 leave:∀{A:bp}{env:aD}{fl:List aD}{k:Nat}{e:Value}{Y:So}{s1 s:Shared}{E:Value->Shared->Prop}{Q:Unit->Shared->Prop},A.frames=some (env::fl)->F (env::fl) k e Y s1 s->(∀s',F fl k e Y s1 s'->Q () s')->ae (ag J w) A (leaving env e) Q E s
def ajJ{kd:Str->Option du}{y:Str}(hy:kd y=some .local):∀{bs:List (Str×Value)}{m:Str->Option Value},(bs.map (·.1)).Nodup->bindL kd bs m y=match bs.lookup y with | some v=>some v | none=>m y:=by
 intro zl;induction zl with
 |nil=>
  intro m _;show rfl
 |cons zx r ih=>
  obtain⟨n,v⟩:=zx;intro m nd
  rewrite [bQ,aX] at nd
  dsimp only[bindL];rw[ih nd.2,bA];cases q:y == n with
  |true=>
   have e:=beq_iff_eq.mp q;subst e;have:r.lookup y=none:=by
    cases e:r.lookup y with
    |none=>rfl
    |some z=>
     exfalso;apply nd.1;clear nd q ih;induction r with
     |nil=>cases e
     |cons p r ih=>
      obtain⟨a,b⟩:=p
      rewrite [bA] at e
      split at e
      ·rename_i q;rw[beq_iff_eq.mp q];show .head _
      ·show .tail _ (ih e)
   rw[this,if_pos hy];simp
  |false=>
   have aU:y≠n:=by simpa using q
   dsimp only;cases r.lookup y with
   |some z=>rfl
   |none=>dsimp only;split<;>simp[aU]
def akR{kd:Str->Option du}{y:Str}(hy:kd y≠some .local):∀{bs:List (Str×Value)}{m:Str->Option Value},(bs.map (·.1)).Nodup->bindC kd bs m y=match bs.lookup y with | some v=>some v | none=>m y:=by
 intro zl;induction zl with
 |nil=>
  intro m _;show rfl
 |cons zx r ih=>
  obtain⟨n,v⟩:=zx;intro m nd
  rewrite [bQ,aX] at nd
  dsimp only[bindC];rw[ih nd.2,bA];cases q:y == n with
  |true=>
   have e:=beq_iff_eq.mp q;subst e;have:r.lookup y=none:=by
    cases e:r.lookup y with
    |none=>rfl
    |some z=>
     exfalso;apply nd.1;clear nd q ih;induction r with
     |nil=>cases e
     |cons p r ih=>
      obtain⟨a,b⟩:=p
      rewrite [bA] at e
      split at e
      ·rename_i q;rw[beq_iff_eq.mp q];show .head _
      ·show .tail _ (ih e)
   rw[this,if_neg hy];simp
  |false=>
   have aU:y≠n:=by simpa using q
   dsimp only;cases r.lookup y with
   |some z=>rfl
   |none=>dsimp only;split<;>simp[aU]
def Vu:∀{aw:List Nat}{vs:List Value}{xs:List V}{m:Env},aw.Nodup->kZ bz Y h vs xs->aw.length=xs.length->∀{x:Nat}{v:V},lk (ups aw xs m) x=some v->(x∈aw/\∃rv,((aw.map nm).zip vs).lookup (nm x)=some rv/\VC bz Y h rv v)\/(x∉aw/\lk m x=some v):=by
 intro zl;induction zl with
 |nil=>
  intro vs xs m _ hv hl x v e;cases xs with
  |nil=>show .inr ⟨by simp,e⟩
  |cons _ _=>cases hl
 |cons y r ih=>
  intro vs xs m nd hv hl x v e;cases hv with
  |nil=>cases hl
  |cons a b=>
   rename_i v0 x0 vs xs
   rewrite [aX] at nd
   have e':lk (ups r xs (up m y x0)) x=some v:=e;rcases ih nd.2 b (fX hl) e' with⟨h1,rv,h2,h3⟩ | ⟨h1,h2⟩
   ·left;have aU:x≠y:=λq=>nd.1 (q ▸ h1);exact⟨.tail _ h1,rv,?_,h3⟩;rw[bQ,dQ,bA];have:(nm x == nm y)=false:=by rw[beq_eq_false_iff_ne];show λq=>aU (BR q)
    rw[this];show h2
   ·rewrite [jY] at h2
    split at h2
    ·rename_i q;subst q;cases h2;left;exact⟨.head _,v0,?_,a⟩;rw[bQ,dQ,bA];simp
    ·rename_i q;right;show⟨λz=>(az.mp z).elim (λe=>q e.symm) h1,h2⟩
def kZ.len(r:kZ bz Y h vs xs):vs.length=xs.length:=by
 induction r with
 |nil=>rfl
 |cons _ _ ih=>simp[ih]
def kZ.app(r:kZ bz Y h vs xs)(q:kZ bz Y h ws ys):kZ bz Y h (vs++ws) (xs++ys):=by
 induction r with
 |nil=>show q
 |cons a _ ih=>show .cons a ih
def VC.has{Y':So}{env:aD}{x:Nat}{v:V}(S:Step nil Y Y' h h')(r:VC bz Y h rv v)(H:iO h' env (nm x) rv):Loc bz Y' h' env x v:=by
 cases v with
 |dz p b cs=>obtain⟨fa,rfl,hc⟩:=r;show⟨fa,H,hc.step S⟩
 |_=>show⟨rv,H,r⟩
theorem Vv(h:Gj xs=true):∀v∈xs,∀p b c,v≠.dz p b c:=λv hv p b c e=>by
 have:=aY.mp h v hv
 nomatch e,this
def als{aw:List Nat}{x:Nat}{v:V}(h:lk (ups aw xs m) x=some v):v∈xs\/lk m x=some v:=by
 induction aw generalizing xs m with
 |nil=>show .inr (by cases xs<;>show h)
 |cons y r ih=>cases xs with
  |nil=>show .inr h
  |cons u xs=>
   rcases ih (show lk (ups r xs (up m y u)) x=some v from h) with q | q
   ·show .inl (.tail _ q)
   ·rewrite [jY] at q
    split at q
    ·cases q;show .inl (.head _)
    ·show .inr q
def ahS:(match fT[26]? with | some r=>(eW r.st).names.all λx=>(match x.2 with | .cell=>false | _=>true) | none=>true)=true:=by kernel_rfl
theorem alA{r:FR}(h:fT[26]?=some r){x:Str}:(eW r.st).names.lookup x≠some .cell:=λq=>by
 have:=ahS
 rewrite [h] at this
 have z:=aY.mp this _ (mem_lookup q);cases z
def aiF:(fns.all λf=>Gj f.ki)=true:=by decide +kernel
theorem MR:recursionLimit=1000:=rfl
def amC{s1:Shared}{m cm:Str->Option Value}{cs:List (Str×bU)}(x:InCallC s L m cs cm s1):∃h tk,s1={ s with heap:=h,toks:=tk}/\Grows s.heap h:=by
 obtain⟨h,tk,rfl⟩:=x.toInCall.same;show⟨h,tk,rfl,x.toInCall.keep⟩
def ai8{F:dw}(cx:Cx w bz)(fo:Vt J w bz F)(hS:∀l,uR l){k:Nat}(wo:IU J w bz F (Wn k) n)(i:Nat)(r:FR)(hr:fT[i]?=some r)(A:bp)(f:Act)(vs:List Value)(xs:List V)(Q:V->So->Prop)(X:Nat->So->Prop)(Y0:So)(s0:Shared)(Y:So)(s:Shared)(rm:rK A f (n+2))(fH:uL bz Y s.heap f.fl)
  (at_:At J w bz nil Y0 s0 Y s) (hv:kZ bz Y s.heap vs xs) (hw:(Wn (k+1)).call i xs Q X Y):cW (ag J w) A (.call (.ref r.a) ⟨vs,[]⟩) (λres s'=>match res with
   | .ok (.ret v)=>GE J w bz Y0 s0 Q v s'
   | .ok _=>False
   | .error e=>BE J w bz F f.fl Y0 s0 X e s') s:=by
 obtain⟨fd,hf,hw⟩:=vR hw;obtain⟨q1,hw⟩:=Al hw;obtain⟨q2,hw⟩:=Al hw;obtain⟨r',w8,aA⟩:=ML Ly hf;obtain rfl:=bR (hr.symm.trans w8);have FF:=Vr aA;clear w8 aA;have hl:vs.length+fd.ki.length=fd.aw.length:=by rw[hv.len];show bL q1
 have eE:=I9 hr;have stays:=at_.2.1.stays;obtain⟨ds,Cb,nA⟩:=Vs cx hr hf FF stays hl;have uT:=L7 w.params eE;have XK:(KF w.params).In s.heap:=cx.k.keeps stays;have nd:fd.aw.Nodup:=by simpa using aY.mp Vl fd (dp hf)
 have hlen:fd.aw.length=(xs++fd.ki).length:=by rw[cR,<-hv.len];show hl.symm
 have vX:kZ bz Y s.heap (vs++ds) (xs++fd.ki):=hv.app Cb.vc;have B5:((fd.aw.map nm).zip (vs++ds)).map (·.1)=fd.aw.map nm:=by
  rw[mw];rw[bP,hlen,<-vX.len];show cy _
 exact zt (fd:=fdOf r) (body:=vG r.st) (by rw[MR];have:=rm.depth;show⟨"A>1000,A+4*(B+2)+10.900",this⟩) (stays _ _ (MN cx eE)) rfl FF.Vo FF.gen rfl (codeRec_of XK uT.2.2) (nA _ _ _ _ ?_);exact wpAny_newFunctionEnv_cells (scope:=eW r.st) (globals:=3) FF.kind (λx hx=>?_) λenv he s1 x=>⟨(cx.lim.keeps stays).keeps x.toInCall.keep,codeAny_func ?_⟩
 ·have et:x.1∈fd.aw.map nm:=by rw[<-B5];show yG hx
  obtain⟨y,hy,e⟩:=aQ.mp et;rw[<-e];rcases FF.rM y hy with q | q
  ·show .inl q
  ·show .inr ⟨q,cellsFrom_some _ _ _ (.inl q)⟩
 ·have eS:env.scope=eW r.st:=congrArg uy he;have eL:env.locals=s.heap.objs.size:=congrArg ux he;have eG:env.globals=3:=congrArg uw he;have eB:env.builtins=builtinsNs:=congrArg uq he;have eC:env.cells=cellsFrom (s.heap.objs.size+1) (eW r.st).names []:=congrArg zW he;have eK:env.code=.ref r.cd:=congrArg zY he;have eQ:env.qual=ax r.ql++".<locals>.":=congrArg zZ he;have eF:env.frame=some env.locals:=(congrArg zX he).trans (congrArg some eL.symm);clear he;have AH:∀y,(eW r.st).names.lookup y=some .cell->(env.cells.lookup y).isSome=true:=λy hy=>by rw[eC];show cellsFrom_some _ _ _ (.inl hy)
  have v5:s.heap.get? env.locals=none:=by rw[eL];show nY _
  have MS:∀y c,env.cells.lookup y=some c->s.heap.get? c=none:=λy c hc=>by
   have:=x.above y c (mem_of_lookup hc)
   rewrite [eL] at this
   show gf (mz this)
  clear eC eL;obtain⟨h₁,tk,rfl,gr⟩:=amC x;have I:=at_.2.1;have S:Step nil Y Y s.heap h₁:=.grow I gr;have dI:∀b,s.heap.get? b=none->bz.get? b=none/\Y b=none/\¬ bu Y h₁ b:=λb hb=>by
   exact⟨?_,I.unset hb,DY I (λb o e=>⟨o,gr b o e,λ_ _ _=>rfl⟩) hb⟩;cases q:bz.get? b with
   |none=>rfl
   |some o=>have:=stays b o q;nomatch hb,this
  have kd:∀y,env.kindOf y=(eW r.st).names.lookup y:=λy=>by dsimp only[cY];rw[eS]
  have c:Cn J w bz F (Wn k) (A.deeper env) ⟨env,env::f.fl⟩ (eW r.st) (ups fd.aw (xs++fd.ki) []) Y s Y { s with heap:=h₁,toks:=tk} n:=by
   exact⟨cx,wo,⟨rm.handled,ui rm.frames,?_,?_⟩,⟨eS,FF.kind,eG,eB,.inr ⟨r,eE,eK,eQ⟩,λy z c h1 h2=>name_of_addr x.apart (mem_of_lookup h1) (mem_of_lookup h2),λy hy=>?_⟩,⟨⟨_,x.toInCall.ns⟩,(dI _ v5).2.2,(dI _ v5).1,λy c hc=>⟨⟨_,x.cell y c hc⟩,(dI _ (MS y c hc)).2.2,(dI _ (MS y c hc)).1⟩,λy v MT hy=>?_,λenv he=>?_⟩,(At.refl I).grow gr⟩
   ·show A.depth+1+4 * (n+1)+10<=900;have:=rm.depth;show⟨"A+1+4*(B+1)+10.900,A+4*(B+2)+10.900",this⟩
   ·show A.units+3+40 * (n+1)+100<=9000;have:=rm.units;show⟨"A+3+40*(B+1)+100.9000,A+40*(B+2)+100.9000",this⟩
   ·rcases hy with hy | hy
    ·show pn.mp (AH _ hy)
    ·rcases FF.n9 _ _ hy with q | q | q<;>cases q
   ·rcases Vu nd vX hlen hy with⟨h1,rv,h2,h3⟩ | ⟨_,h2⟩
    ·exact VC.has S h3 ?_;rcases FF.rM y h1 with q | q
     ·exact .inl ⟨(kd _).trans q,_,x.toInCall.ns,?_⟩;rw[ajJ ((kd _).trans q) (by rw[B5];show Jv nd),h2]
     ·obtain⟨cc,jK⟩:=pn.mp (AH _ q);exact .inr ⟨.inl ((kd _).trans q),cc,jK,?_⟩;have:=x.cell _ _ jK
      rewrite [akR (by rw[kd,q];decide) (by rw[B5];show Jv nd),h2] at this
      show this
    ·cases h2
   ·rcases az.mp he with e | he
    ·rw[e];show⟨by rw[eS,FF.kind];decide,_,eF,(dI _ v5).1,(dI _ v5).2.2,_,x.toInCall.ns⟩
    ·show fH.step S env he
  have nw:Nw ⟨env,env::f.fl⟩ (eW r.st) (ups fd.aw (xs++fd.ki) []) s:=by
   exact⟨v5,λy cc _ hc=>MS _ _ hc,λy hy=>?_,λy q=>?_,_,rfl,eF⟩
   ·rcases dO.mp q2 with q | q
    ·intro z v hz p b c e;rcases als hz with m | m
     ·rcases aJ.mp m with m | m
      ·show Vv q v m p b c e
      ·show Vv (aY.mp aiF fd (dp hf)) v m p b c e
     ·cases m
    ·have e:=bL q
     rewrite [e] at hr
     show absurd hy (alA hr)
   ·rcases FF.n9 _ _ q with q | q | q<;>cases q
  exact aI (hS fd.body c nw FF.body hw) (λfl s' q=>?_) λe s' zz=>by obtain⟨kx,Y',s2,h1,h2,h3⟩:=zz;show fo.leave (ui rm.frames) h3 λs' h4=>⟨kx,Y',s2,h1,at_.trans h2,h4⟩
  cases fl with
  |next=>
   obtain⟨m',Y',h1,h2,_⟩:=q;show⟨.none,Y',.none,h1,at_.trans h2.at_⟩
  |ret v=>
   obtain⟨y,Y',h1,h2,h3⟩:=q;show⟨y,Y',h1,h2,at_.trans h3⟩
  |brk=>show q.elim
  |cont=>show q.elim
set_option tactic.hygienic false
def MV(I:Inv J w bz Y h)(k:Kept bz Y h h'){a:Nat}{o:O}(e:Y a=some o){ob:Obj}(z:h.get? a=some ob):h'.get? a=some ob:=by
 obtain⟨o',e',u,q⟩:=k a ob z;rcases q with rfl | ⟨nm,_⟩
 ·show e'
 ·have R:=I.rep a o e;have hx:∀es ep,ob.data≠.dict es ep:=by
   intro es ep hd;cases R with
   |inst _ _ _=>show nm (.inl ⟨_,e,rfl⟩)
   |lst _ _ _=>show nm (.inl ⟨_,e,rfl⟩)
   |cu _ _=>show nm (.inl ⟨_,e,rfl⟩)
   |fL g _ _=>obtain⟨o2,e2,_,n,h3⟩:=g;nomatch z,e2;nomatch hd,h3
   |tup g _ _=>obtain⟨o2,e2,_,n,h3⟩:=g;nomatch z,e2;nomatch hd,h3
  rewrite [u.show hx] at e'
  show e'
def Vw{b:Nat}(k:Kept bz Y h h')(m:bu Y h b){ob:Obj}(z:h.get? b=some ob):h'.get? b=some ob:=by
 obtain⟨o',e',u,q⟩:=k b ob z;rcases q with rfl | ⟨nm,_⟩
 ·show e'
 ·show absurd m nm
def Vx(I:Inv J w bz Y h)(k:Kept bz Y h h'):(∀b d,dh Y h' b d↔dh Y h b d)/\∀b,bu Y h' b↔bu Y h b:=by
 have da:∀b d,dh Y h' b d↔dh Y h b d:=by
  intro b d;constructor
  ·rintro⟨c,fs,ox,e,hx,hd⟩;obtain⟨ob,e'⟩:=(I.rep b _ e).here;have:=MV I k e e'
   nomatch hx,this
   show⟨c,fs,ox,e,e',hd⟩
  ·rintro⟨c,fs,ox,e,hx,hd⟩;show⟨c,fs,ox,e,MV I k e hx,hd⟩
 exact⟨da,λb=>?_⟩;dsimp only[bu];simp only[da]
def At.kept{s0:Shared}(x:At J w bz own Y0 s0 Y s)(k:Kept bz Y s.heap h'):At J w bz own Y0 s0 Y { s with heap:=h',toks:=tk}:=by
 obtain⟨⟨h,t,e⟩,I,S⟩:=x;obtain⟨da,mu⟩:=Vx I k;exact⟨⟨h',tk,by rw[e]⟩,⟨λb ob e=>?_,λb q e=>?_,λb ob e m=>I.old b ob e ((mu b).mp m),λb d y=>I.sep b d ((da _ _).mp y),λb c d y z=>I.inj b c d ((da _ _).mp y) ((da _ _).mp z),λt ht=>tab_keep (I.tab t ht) ?_ λb o e r=>?_⟩,S.trans ⟨λb o e=>let ⟨o',e',_⟩:=k b o e;⟨o',e'⟩,λb o e n=>?_,λb o e n=>n⟩⟩
 ·obtain⟨o',e',_,q⟩:=k b ob (I.stays b ob e);rcases q with rfl | ⟨_,q⟩
  ·show e'
  ·nomatch e,q
 ·exact(I.rep b q e).keeps (λob z=>MV I k e z) λob d od z zd zo hq=>?_;obtain⟨c,fs,rfl⟩:=hq;show Vw k (.inr (.inl ⟨b,c,fs,ob,e,z,zd⟩)) zo
 ·obtain⟨ps,e1,_⟩:=I.tab t ht;rw[e1];show Vw k (.inr (.inr ⟨t,ht,rfl⟩)) e1
 ·obtain⟨o',e',u,_⟩:=k b o e;obtain⟨vs,q,t,hd,_⟩:=r
  rewrite [u.show λes ep z=>by nomatch hd,z] at e'
  show e'
 ·obtain⟨o',e',u,_⟩:=k b o e;show⟨o',e',λm=>n ((mu b).mp m),.inr u⟩
def MX{x C:Nat}{mA:Str->Option Value}{o':Obj}(I:h.Inst x C mA)(ho:h.get? x=some o)(lM:h'.get? x=some o')(hc:o'.cls=o.cls)(hd:∀c,o'.data≠.cls c)(B7:o'.dict=o.dict)(k:∀d od,o.dict=some d->h.get? d=some od->h'.get? d=some od):h'.Inst x C mA:=by
 obtain⟨o2,e2,c2,n2,r2⟩:=I
 nomatch ho,e2
 exact⟨o',lM,hc.trans c2,hd,?_⟩;rcases r2 with⟨a,b⟩ | ⟨d,a,b,c⟩
 ·show .inl ⟨B7.trans a,b⟩
 ·show .inr ⟨d,B7.trans a,b,c.at λod e=>k d od a e⟩
def agJ{E E':Value->Shared->Prop}{env:aD}{outer:List aD}{x:Nat}{vs:Array Value}{head:Value}{iS:Bool}{Q:Unit->Shared->Prop}
  (Cj:A.frames=some (env::outer)) (hl:s.heap.FunFrames bz (env::outer)) (hf:env.frame=some L) (he:s.heap.get? x=some o) (hd:o.data=.fields vs) (gx:1<vs.size)
  (h:∀h' T',(∀b o',b≠x->b∉(env::outer).filterMap (·.frame)->s.heap.get? b=some o'->h'.get? b=some o')->(∀b o',b≠x->s.heap.get? b=some o'->∃sl,h'.get? b=some { o' with slots:=sl})->h'.get? x=some (fu (·.setIfInBounds 1 (aC T')) o)->s.heap.get? T'=none->(∃oT ts,h'.get? T'=some oT/\oT.data=.fields ts/\ts[3]?=some .none)->Q () { s with heap:=h'}) :
  ae M A (do let a <-frameOf env;let pl <-entryPlaceOf L iS;let b <-uo head a .none (bZ L) .none pl;setField (.ref x) 1 b) (λ_ s'=>ae M A (pQ (.ref x) none) Q E s') E' s:=by
 have MY:x∉(env::outer).filterMap (·.frame):=λhm=>by
  obtain⟨_,o2,ho,hnf⟩:=hl.mem hm
  rewrite [he] at ho;injection ho with ho;subst ho;show hnf vs hd
 exact ah (wpAny_frameOf_fun Cj hl hf λh1 jX=>?_);exact ah (wpAny_entryPlaceOf λpl nI=>?_);dsimp only[uo,newFields];exact ah (tM ?_ (nI.sizeOk5 _ _ _ _ _));have Vy:h1.get? x=some o:=(jX.2.1 x MY).trans he;have Vz:=aZ (h:=h1) { cls:=.type "traceback",dict:=none,data:=.fields ([head,.ref L,.none,bZ L,.none]++(if pl.isEmpty then bH 6 dK else pl)).toArray} Vy
 exact t9 Vz hd gx ?_;have VA:h1.objs.size≠x:=sS (bM Vy);have F9:=p8 hd (·.setIfInBounds 1 (aC h1.objs.size));have VB:=mW (fu (·.setIfInBounds 1 (aC h1.objs.size))) Vz (z9 F9);have VD:=(kK (h1.push { cls:=.type "traceback",dict:=none,data:=.fields ([head,.ref L,.none,bZ L,.none]++(if pl.isEmpty then bH 6 dK else pl)).toArray})
  (fu (·.setIfInBounds 1 (aC h1.objs.size))) (aj VA)).trans (cJ h1 rfl)
 dsimp only[pQ];exact ah (i9 VB F9 (x:=.ref h1.objs.size) (by simp[gx]) ?_);rw[if_pos (show(aC h1.objs.size != dK)=true from by simp)];have keep:∀b o,b≠x->h1.get? b=some o ->
   (((h1.push { cls:=.type "traceback",dict:=none,data:=.fields ([head,.ref L,.none,bZ L,.none]++(if pl.isEmpty then bH 6 dK else pl)).toArray}).update x (fu (·.setIfInBounds 1 (aC h1.objs.size)))).update h1.objs.size
    (fu (·.setIfInBounds 3 ((none:Option bU).elim dK λf=>bZ f)))).get? b=some o:=λb o Gl hb=>by
  have hbT:h1.objs.size≠b:=sS (bM hb);rw[kK _ _ hbT,kK _ _ (aj Gl)];show aZ _ hb
 exact t9 VD rfl (by simp only[aM,cR,yM,yP]<;>show⟨"3>0+1+1+1+1+1+A"⟩) (h _ h1.objs.size (λb o' uU k9 hb=>keep b o' uU ((jX.2.1 b k9).trans hb)) (λb o' uU hb=>?_) ?_ ?_ ?_)
 ·obtain⟨sl,hs⟩:=jX.2.2 b o' hb;show⟨sl,keep b _ uU hs⟩
 ·rw[kK _ _ VA];show VB
 ·show gf (by rw[jX.1];show cy _)
 ·show⟨_,_,mW _ VD (z9 (p8 rfl _)),p8 rfl _,by first | (simp;done) | (rcases nI with rfl | ⟨_,_,_,_,_,_,_,rfl⟩<;>simp)⟩
def uL.fun:∀{fl:List aD},uL bz Y h fl->h.FunFrames bz fl:=by
 intro zl;induction zl with
 |nil=>
  intro _;show trivial
 |cons env r ih=>
  intro x;obtain⟨hk,L,hf,hb,hm,mm,o,es,ep,ho,hd,_⟩:=x env (.head _);show⟨hk,⟨L,o,hf,hb,ho,λvs q=>by nomatch hd,q⟩,ih λe he=>x e (.tail _ he)⟩
inductive VF(h:Heap)(e:Value):Prop
 |mk (x:Nat) (o:Obj) (vs:Array Value) (T:Nat) (oT:Obj) (ts:Array Value) (h0:e=.ref x) (h1:h.get? x=some o) (h2:o.data=.fields vs) (h3:vs[1]?=some (.ref T)) (h4:T≠x) (h5:h.get? T=some oT) (h6:oT.data=.fields ts) (h7:ts[3]?=some .none):VF h e
def VG{f:Array Value->Array Value}:(fu f o).dict=o.dict:=by
 obtain⟨a1,a2,a3,a4⟩:=o;cases a3<;>rfl
def VH{E E':Value->Shared->Prop}{env:aD}{outer:List aD}{k:Nat}{e:Value}{s1:Shared}{Q:Unit->Shared->Prop}(Cj:A.frames=some (env::outer))(S:FI bz (env::outer) k e Y s1 s)(h:∀s',FI bz (env::outer) k e Y s1 s'->VF s'.heap e->Q () s') :
  ae M A (mL e env) (λ_ s'=>ae M A (pQ e none) Q E s') E' s:=by
 obtain⟨⟨hh,tk,rfl⟩,kp,fH,x,rfl,hn,o,vs,mA,t,ho,hc,hd,I,hm,Gm,hv⟩:=S;obtain⟨hk,L,hf,hb,VJ,mm,Jw⟩:=fH env (.head _);dsimp only at ho I kp hv;have MZ:∀g:Heap,Kept bz Y s1.heap g->g.FunFrames bz (env::outer):=λg kg=>by
  exact fH.fun.of_keeps λb o hb _=>?_;obtain⟨o',e',u,_⟩:=kg b o hb;show⟨o',e',u.data⟩
 have Gn:∀b∈(env::outer).filterMap (·.frame),bz.get? b=none/\¬ bu Y s1.heap b/\∃o es ep,s1.heap.get? b=some o/\o.data=.dict es ep:=λb hb=>by
  obtain⟨e,he,q⟩:=lY.mp hb;obtain⟨_,L',hf',bS,jJ,_,o,es,ep,h1,h2,_⟩:=fH e he
  nomatch hf',q
  show⟨bS,jJ,o,es,ep,h1,h2⟩
 have fin:∀(g:Heap),(∀b o',s1.heap.get? b=some o'->g.get? b=hh.get? b)->g.get? x=hh.get? x->(∀d od,o.dict=some d->hh.get? d=some od->g.get? d=some od)->∀(head:Value) (iS:Bool),ae M A (do let a <-frameOf env;let pl <-entryPlaceOf L iS;let b <-uo head a .none (bZ L) .none pl;setField (.ref x) 1 b) (λ_ s'=>ae M A (pQ (.ref x) none) Q E s') E' { s1 with heap:=g,toks:=tk}:=λg g1 g2 g3 head iS=>by
  have kg:Kept bz Y s1.heap g:=λb ob hb=>by
   obtain⟨o',e',u⟩:=kp b ob hb;show⟨o',(g1 b ob hb).trans e',u⟩
  have qh:1<vs.size:=by
   rcases hv with q | ⟨_,_,_,q,_⟩<;>show(rV.mp q).1
  exact agJ (bz:=bz) (s:={ s1 with heap:=g,toks:=tk}) Cj (MZ g kg) hf (g2.trans ho) hd qh λh' T' k1 k2 k3 k4 zz=>?_
  obtain⟨oT,ts,k5,k6,k7⟩:=zz;dsimp only at k1 k2 k3 k4;have Jx:T'≠x:=λq=>by nomatch q,g2,ho,k4
  have Ay:s1.heap.get? T'=none:=by
   cases q:s1.heap.get? T' with
   |none=>rfl
   |some o'=>
    obtain⟨o2,e2,_⟩:=kg T' o' q
    nomatch k4,e2
  have gw:=p8 hd (·.setIfInBounds 1 (aC T'));exact h _ ⟨⟨h',tk,rfl⟩,λb ob hb=>?_,fH,x,rfl,hn,fu (·.setIfInBounds 1 (aC T')) o,_,mA,t,k3,(Aa _ _).trans hc,gw,?_,hm,?_,.inr ⟨T',oT,ts,by simp[qh],Jx,Ay,k5,k6,k7⟩⟩ ⟨x,_,_,T',oT,ts,rfl,k3,gw,by simp[qh],Jx,k5,k6,k7⟩
  ·obtain⟨o',e',u,q⟩:=kg b ob hb;have uU:b≠x:=λz=>by nomatch z,hn,hb
   by_cases k9:b∈(env::outer).filterMap (·.frame)
   ·obtain⟨f1,f2,o3,es,ep,f3,f4⟩:=Gn b k9
    nomatch hb,f3
    obtain⟨sl,e2⟩:=k2 b o' uU e';show⟨_,e2,u.trans (.inr ⟨⟨es,ep,u.data.trans f4⟩,sl,rfl⟩),.inr ⟨f2,f1⟩⟩
   ·show⟨o',k1 b o' uU k9 e',u,q⟩
  ·exact MX I ho k3 (Aa _ _) (λc q=>by nomatch gw,q) ?_ λd od lF vV=>?_
   ·show VG
   ·exact k1 d od (λq=>?_) (λq=>?_) (g3 d od lF vV)
    ·obtain⟨o2,e2,_,_,r2⟩:=I
     nomatch ho,e2
     rcases r2 with⟨a,_⟩ | ⟨d2,a,b2,_⟩
     ·nomatch lF,a
     ·nomatch lF,a;show b2 q
    ·obtain⟨_,_,o3,_,_,f3,_⟩:=Gn d q
     nomatch Gm d lF,f3
  ·intro d lF;show Gm d (VG ▸ lF)
 dsimp only[mL];simp only[hf];rcases hv with h1 | ⟨T,oT,ts,h1,Jx,Ay,hT,Gp,h3⟩
 ·exact ah (i9 (s:={ s1 with heap:=hh,toks:=tk}) ho hd h1 ?_)
  rw[if_neg (by decide)];show fin hh (λ_ _ _=>rfl) rfl (λ_ _ _ q=>q) _ _
 ·exact ah (i9 (s:={ s1 with heap:=hh,toks:=tk}) ho hd h1 ?_)
  rw[if_pos (show(aC T != dK)=true from by simp)];exact ah (i9 (s:={ s1 with heap:=hh,toks:=tk}) hT Gp h3 ?_)
  rw[if_neg (show ¬ ((dK == bZ L)=true) from by simp[bZ])];exact ah (t9 (s:={ s1 with heap:=hh,toks:=tk}) hT Gp (rV.mp h3).1 ?_)
  have other:∀b,b≠T->(hh.update T (fu (·.setIfInBounds 3 dK))).get? b=hh.get? b:=λb hb=>kK _ _ (aj hb);exact fin _ (λb o' hb=>other b λq=>by nomatch q,Ay,hb) (other x (aj Jx)) (λd od lF vV=>?_) _ _
  exact(other d λq=>?_).trans vV;obtain⟨o2,e2,_,_,r2⟩:=I
  nomatch ho,e2
  rcases r2 with⟨a,_⟩ | ⟨d2,a,b2,c2⟩
  ·nomatch lF,a
  ·nomatch lF,a
   obtain⟨o3,es,ep,f1,f2,_⟩:=c2
   nomatch q,hT,f1
   nomatch Gp,f2
theorem anH:Vt J w bz (FI bz) where
 leave:=by
  intro A env fl k e Y s1 s E Q Cj S h;dsimp only[leaving];exact ah (VH Cj S λs' S' _=>h s' ⟨S'.same,S'.kept,λe he=>S'.fH e (.tail _ he),S'.exc⟩)
end
end Tactic
namespace Tactic
open PySem PySem.W PySem.Calls PyProof.Rows PySem.Spec Lh.Tactic
open Builtin Builtin.ObjectAttr
noncomputable section
section
variable{J:Program}{w:aK}{A:bp}{E:Value->Shared->Prop}{h:Heap}{g:Array GenState}{d:Drawn}{t:Nat}{os:dJ}
variable{cn q:Str}{C N x:bU}{bs bm:List Value}{sn:List Str}{sub:List Value}{ab:Bool}{col:Option Bool}{dd:Option bU}{k0 k1 k2 k3 k5:Option Value}{B newId M3 sa owner:String}
 {mN mA:Str->Option Value}{name:Str}{v:Value}
def ai3{tk:Tok}{Q:Fin->Shared->Prop}{o:Obj}(SF:StoreFacts B bm sa owner)
  (hC:h.get? C=some (kG cn q C N bs bm true sn sub ab col dd k0 k1 k2 k3 k5 newId)) (hn:h.Ns N mN) (Ck:mN name=none)
  (hB:ja (.type B) name=pure none) (hx:h.get? x=some o) (hc:o.cls=.ref C) (AA:∀c,o.data≠.cls c) (D9:o.dict=none)
  (hq:∀h' tk',h'.get? x=some { cls:=o.cls,dict:=some h.objs.size,data:=o.data,slots:=o.slots}->h'.Ns1 h.objs.size (λy=>if y=name then some v else none)->(∀b ob,b≠x->h.get? b=some ob->h'.get? b=some ob)->Q (.done (.ret .none)) ⟨h',g,d,tk',os⟩) :
  ae (ag J w) A (ft.«object.__setattr__» ⟨[.ref x,.str name tk,v],[]⟩) Q E ⟨h,g,d,t,os⟩:=by
 have Gq:=SF.passes (.ref x);unfold ft.«object.__setattr__»
 repeat (first | rw[refuse_eq] | (rw[refuseLoop_ref,Gq]) | (with_reducible exact fY hx ?_;rw[hc]) | with_reducible exact wpAny_mroOf_exc hC ?_ | (with_reducible exact mE hC hn SF.mro hB ?_;rw[Ck]) | wp_step)
 rewrite [D9,if_neg (by simp[typeHasDict])]
 split
 ·rename_i Ea;cases Ea
 split
 ·rename_i c Ea;show absurd Ea (AA c)
 ·have et:(h.push { cls:=.type "dict",data:=.dict #[]}).get? x=some o:=aZ _ hx
  have jL:x≠h.objs.size:=b9 (bM hx);exact ah (wpAny_alloc' ?_);exact ah (wpAny_update' et ?_);exact aq ?_;have hgd:((h.push { cls:=.type "dict",data:=.dict #[]}).update x λo=>{ cls:=o.cls,dict:=some h.objs.size,data:=o.data,slots:=o.slots}).get? h.objs.size
    = some { cls:=.type "dict",data:=.dict #[]}:=
   (pY _ _ _ _ jL.symm).trans (Heap.get?_push_at rfl rfl)
  have Ao:((h.push { cls:=.type "dict",data:=.dict #[]}).update x λo=>{ cls:=o.cls,dict:=some h.objs.size,data:=o.data,slots:=o.slots}).Ns h.objs.size (λ_=>none):=
   ⟨_,#[],_,hgd,rfl,λe he=>absurd he (by simp),λ_=>rfl⟩
  show ae _ _ (storeInDict h.objs.size (.str name tk) name v) _ _ _;unfold storeInDict newKeyGuard;exact ah (aq (ah (wpAny_nsSet1 (Heap.Ns1.of_empty Ao) λh' lL hs=>?_)));obtain⟨oD,esD,epD,hoD,hdD,hcD⟩:=lL.count (Within.cons name v Within.nil);exact ah (wpAny_lookBehind hoD (by rw[hdD];show pastItsLine_dict (kE hcD (by rw[yM,yP,cq];show⟨"0+1.16777216+1"⟩))) ?_)
  wp_walk
  exact hq h' _ ?_ lL λb ob uU hb=>?_
  ·exact(hs.2 x jL).trans (mW _ et ?_);have Cj:=(Heap.get?_some_iff.mp hx).2;obtain⟨oc,od,odt,osl⟩:=o;clear hc D9 AA hq hx et;cases odt<;>first | rfl | show Cj
  ·show(hs.2 b (b9 (bM hb))).trans ((pY _ _ _ _ uU).trans (aZ _ hb))
def ajP{Q:Unit->Shared->Prop}{o:Obj}(SF:StoreFacts B bm sa owner)
  (hC:h.get? C=some (kG cn q C N bs bm true sn sub ab col dd k0 k1 k2 k3 k5 newId)) (hn:h.Ns N mN) (nu:mN "__setattr__"=none) (Ck:mN name=none)
  (hB:ja (.type B) name=pure none) (hx:h.get? x=some o) (hc:o.cls=.ref C) (AA:∀c,o.data≠.cls c) (D9:o.dict=none)
  (hq:∀h' tk',h'.get? x=some { cls:=o.cls,dict:=some h.objs.size,data:=o.data,slots:=o.slots}->h'.Ns1 h.objs.size (λy=>if y=name then some v else none)->(∀b ob,b≠x->h.get? b=some ob->h'.get? b=some ob)->Q () ⟨h',g,d,tk',os⟩) :
  ae (ag J w) A (mM (.ref x) name v) Q E ⟨h,g,d,t,os⟩:=by
 have f3:=SF.slot.bind (.ref x);unfold mM callSpecial? specialOf
 repeat (any_goals (first | assumption | (with_reducible exact fY hx ?_;rw[hc]) | (with_reducible exact mE hC hn SF.mro SF.slot.lookup ?_;rw[nu]) | wp_step))
 exact zu SF.slot.plain SF.entry (wpAny_check_sa SF hC hx hc (ai3 SF hC hn Ck hB hx hc AA D9 λh' tk' a b c=>?_))
 repeat (any_goals (first | assumption | wp_step))
 show hq h' tk' a b c
def afG{M:Model}{o:Obj}{nameV:Value}{Q:Unit->Shared->Prop}(Gr:bm.contains (.type "BaseException")=true)(hC:h.get? C=some (kG cn q C N bs bm true sn sub ab col dd k0 k1 k2 k3 k5 newId))
  (hx:h.get? x=some o) (hc:o.cls=.ref C) (hq:Q () ⟨h,g,d,t,os⟩):ae M A (checkBuiltinCall "BaseException.__getattribute__" ⟨[.ref x,nameV],[]⟩) Q E ⟨h,g,d,t,os⟩:=by
 have hk:builtinKind "BaseException.__getattribute__"=some .slot:=by decide +kernel
 have hsplit:splitId "BaseException.__getattribute__"=some ("BaseException","__getattribute__"):=by decide +kernel
 have M4:(aC C::bm).contains (.type "BaseException")=true:=by rw[yJ,Gr,Bool.or_true]
 have ha:=F.args_bexc_ga (.ref x) nameV;simp only[checkBuiltinCall,hk,hsplit];exact ah ?_
 ·unfold isInstance
  repeat (first | (with_reducible exact fY hx ?_;rw[hc]) | (with_reducible exact zC hC ?_;rw[M4]) | wp_step)
  show hq
def aeY{tk:Tok}{Q:Fin->Shared->Prop}(M5:mroOf (.type B)=pure bm)
  (hC:h.get? C=some (kG cn q C N bs bm true sn sub ab col dd k0 k1 k2 k3 k5 newId)) (hn:h.Ns N mN) (Ck:mN name=none)
  (hB:ja (.type B) name=pure none) (I:h.Inst x C mA) (hv:mA name=some v) (hq:Q (.done (.ret v)) ⟨h,g,d,t,os⟩) :
  ae (ag J w) A (ft.«object.__getattribute__» ⟨[.ref x,.str name tk],[]⟩) Q E ⟨h,g,d,t,os⟩:=by
 obtain⟨o,hx,hc,AA,hd⟩:=I;rcases hd with⟨_,hmA⟩ | ⟨dx,hdx,aU,nu⟩
 ·nomatch hmA name,hv
 unfold ft.«object.__getattribute__»
 repeat (first | (with_reducible exact fY hx ?_;rw[hc]) | (with_reducible exact mE hC hn M5 hB ?_;rw[Ck]) | wp_step)
 split
 ·rename_i c Ea;show absurd Ea (AA c)
 unfold instanceDict
 repeat (first | (with_reducible exact fY hx ?_;rw[hc]) | with_reducible exact fY hC ?_ | wp_step)
 rw[hdx]
 repeat (first | (with_reducible exact wpAny_nsGet nu.ns ?_;rw[hv]) | wp_step)
 show hq
def akD{expr:Bool}{Q:Value->Shared->Prop}(FB:ExcAttrBase B bm)
  (hC:h.get? C=some (kG cn q C N bs bm true sn sub ab col dd k0 k1 k2 k3 k5 newId)) (hn:h.Ns N mN) (hng:mN "__getattribute__"=none) (hnh:mN "__getattr__"=none) (Ck:mN name=none)
  (hB:ja (.type B) name=pure none) (I:h.Inst x C mA) (hv:mA name=some v) (hh:handedOut v=pure v) (hq:Q v ⟨h,g,d,t+1,os⟩) :
  ae (ag J w) A (getAttr (.ref x) name expr) Q E ⟨h,g,d,t,os⟩:=by
 obtain⟨o,hx,hc,_⟩:=id I;have f3:=FB.ga.bind (.ref x);have M6:(expr && onTheHeap (kL "BaseException.__getattribute__"))=false:=by cases expr<;>rfl
 have Cp:(kL "BaseException.__getattribute__" == kL "object.__getattribute__")=false:=by decide +kernel
 have et:(onTheHeap (aC C) && kL "BaseException.__getattribute__" == kL "object.__getattribute__")=false:=by rw[Cp];rfl
 unfold getAttr getAttrBy
 repeat (any_goals (first | assumption | (with_reducible exact fY hx ?_;rw[hc]) | (with_reducible exact mE hC hn FB.mro FB.ga.lookup ?_;rw[hng]) | (with_reducible exact mE hC hn FB.mro FB.noGetattr ?_;rw[hnh]) | wp_step))
 exact zu FB.ga.plain F.entry_bexc_ga (afG FB.hasBase hC hx hc (aeY FB.mro hC hn Ck hB I hv ?_))
 repeat (any_goals (first | assumption | wp_step))
end
end
end Tactic
namespace Tactic
open PySem PySem.W PySem.Calls PyProof.Rows PySem.Spec Lh.Tactic
noncomputable section
variable{J:Program}{w:aK}{bz:Heap}
set_option tactic.hygienic false
abbrev Eb:Obj:=kG (ax "LispSignal") (ax "LispSignal") 38 37 [.type "Exception"] [.type "Exception",.type "BaseException",.type "object"] true [] [] false none none (some (R 22)) none (some (S "LispSignal" 196)) (some (S "LispSignal" 204)) (some (B true)) "Exception.__new__"
def aph(P:ak):iA P 38=Eb:=by kernel_rfl
def VK:List (String×Nat×Value):=[("__module__",203,mn),("__firstlineno__",207,It 5 206),("__init__",216,R 35),("__static_attributes__",219,R 36),("__weakref__",221,R 39),("__doc__",222,N)]
def apV(P:ak):iA P 37=D P VK 3:=by kernel_rfl
def Cq(P:ak):Str->Option Value:=nsFind (cf (qL P VK))
def aib(P:ak):∀(l:List (String×Nat×Value)),∀e∈qL P l,∃n t,e.key=.str n t:=by
 intro zl;induction zl with
 |nil=>
  intro e h;cases h
 |cons zx r ih=>
  obtain⟨n,t,v⟩:=zx;intro e h;dsimp only[qL] at h;rcases az.mp h with rfl | h
  ·show⟨_,_,rfl⟩
  ·show ih e h
def amE:(kA.contains 38 && kA.contains 37)=true:=by decide +kernel
def M7(cx:Cx w bz):bz.get? 38=some Eb/\bz.Ns 37 (Cq w.params):=by
 have:=amE
 rewrite [bx] at this
 have h1:=cx.k _ _ (AG (f:=iA w.params) (gS.mp this.1));have h2:=cx.k _ _ (AG (f:=iA w.params) (gS.mp this.2))
 rewrite [aph] at h1
 rewrite [apV] at h2
 exact⟨h1,_,_,_,h2,rfl,λe he=>?_,λ_=>rfl⟩;show aib _ _ e (by simpa using he)
def akA(P:ak):Cq P "__init__"=some (.ref 35):=by kernel_rfl
def VL(P:ak):Cq P "__setattr__"=none:=by kernel_rfl
def aoh(P:ak):Cq P "__getattribute__"=none:=by kernel_rfl
def anr(P:ak):Cq P "__getattr__"=none:=by kernel_rfl
def VM(P:ak):Cq P (nm 23)=none:=by kernel_rfl
def amX(P:ak):Cq P (nm 24)=none:=by kernel_rfl
def VN:ja (.type "Exception") (nm 23)=pure none:=by rw[tT,tH];kernel_rfl
def aoz:ja (.type "Exception") (nm 24)=pure none:=by rw[tT,tH];kernel_rfl
def VP:(nm 23 == nm 24)=false:=by decide +kernel
def ake:(nm 22 == nm 23)=false:=by decide +kernel
def ajB:(nm 22 == nm 24)=false:=by decide +kernel
def aiv:(match fT[1]? with | some r=>(eW r.st).names.all λx=>(match x.2 with | .cell=>false | _=>true) | none=>true)=true:=by kernel_rfl
theorem VQ:∃r,fT[1]?=some r/\r.a=35:=⟨_,rfl,rfl⟩
theorem VW:fns[1]?=some f1:=rfl
def VX{A:bp}{E:Value->Shared->Prop}{s:Shared}{f:Act}{sc:Scope}{z:Stmt}{a b k x:Nat}{vb:Value}{Q:Flow->Shared->Prop}(st:iB f sc)(aA:IA sc (.asg (.attr (.v a) k) (.v b)) z=true)(hb:iO s.heap f.env (nm b) vb)(ha:iO s.heap f.env (nm a) (.ref x))
  (h:ae (ag J w) A (mM (.ref x) (nm k) vb) (λ_=>Q .next) E s):ae (ag J w) A (exec z f.env) Q E s:=by
 exact BH aA λ_ v pos h'=>dv h' λtg h'=>ie h' λh1 h2 h3=>?_;revert h3;exact jT h1 λo q p h5=>fF h5 λh5 h6 h3=>jU (P:=λq=>ae (ag J w) A (exec (.Assign [.Attribute o q p] v pos) f.env) Q E s) h6 ?_;have h3:=UM (line:=pos.line) st h3;clear h';obtain⟨p1,rfl,_⟩:=LV h2;obtain⟨p2,rfl,_⟩:=LV h5;show UN (hb.eval st (UI (ha.eval st h))) h3 rfl rfl
def ako(cx:Cx w bz){A:bp}{E:Value->Shared->Prop}{s:Shared}{x:Nat}{o:Obj}{vs:Array Value}{sy v2:Value}{P:Value->Shared->Prop}(stays:bz.StaysIn s.heap)(room:A.depth<1000)(hx:s.heap.get? x=some o)(hc:o.cls=.ref 38)(hd:o.data=.fields vs)(D9:o.dict=none)
  (h:∀h' tk o',h'.get? x=some o'->o'.cls=.ref 38->o'.data=.fields vs->(∀d,o'.dict=some d->s.heap.get? d=none)->(∃mA,h'.Inst x 38 mA/\mA (nm 23)=some sy)->(∀b ob,b≠x->s.heap.get? b=some ob->h'.get? b=some ob)->P .none { s with heap:=h',toks:=tk}) :
  ae (ag J w) A (call (.ref 35) [.ref x,sy,v2]) P E s:=by
 obtain⟨r,hr,ha⟩:=VQ;obtain⟨r',w8,aA⟩:=ML Ly VW
 nomatch hr,w8
 have FF:=Vr aA;have eE:=I9 hr;have XK:(KF w.params).In s.heap:=cx.k.keeps stays;have uT:=L7 w.params eE;obtain⟨ds,Cb,nA⟩:=Vs cx hr VW FF stays (vs:=[.ref x,sy,v2]) rfl;obtain rfl:ds=[]:=by clear nA;cases Cb;rfl
 have om:∀y∈(eW r.st).names,y.2≠.cell:=λy hy e=>by
  have:=aiv
  rewrite [hr] at this
  have z:=aY.mp this _ hy
  nomatch e,z
 have qX:∀k∈f1.aw,(eW r.st).names.lookup (nm k)=some .local:=λk hk=>by
  rcases FF.rM k hk with q | q
  ·show q
  ·show absurd rfl (om _ (mem_lookup q))
 exact mK ?_;rw[<-ha];exact zt (fd:=fdOf r) (body:=vG r.st) (by rw[MR];show room) (stays _ _ (MN cx eE)) rfl FF.Vo FF.gen rfl (codeRec_of XK uT.2.2) (nA _ _ _ _ ?_);exact tJ (scope:=eW r.st) (globals:=3) om (λy hy=>?_) (λh₁ nu vZ=>⟨(cx.lim.keeps stays).fresh _ vZ,codeAny_func ?_⟩) FF.kind
 ·have Gu:y.1∈f1.aw.map nm:=by
   have hz:(((f1.aw.map nm).zip ([.ref x,sy,v2]++[])).map (·.1))=f1.aw.map nm:=rfl;rw[<-hz];show yG hy
  obtain⟨k,hk,e⟩:=aQ.mp Gu;rw[<-e];show qX k hk
 have old:∀b ob,s.heap.get? b=some ob->h₁.get? b=some ob:=λb ob e=>vZ.extBut b ob (b9 (bM e)) (aZ _ e);show ae (ag J w) (_:bp) (execs (vG r.st) (newEnv (eW r.st) s.heap.objs.size 3 [] ((fdOf r).qualname++".<locals>.") (some r.a) (fdOf r).code none (fdOf r).builtins)) _ _ _;generalize he:newEnv (eW r.st) s.heap.objs.size 3 [] ((fdOf r).qualname++".<locals>.") (some r.a) (fdOf r).code none (fdOf r).builtins=env;have eS:env.scope=eW r.st:=congrArg uy he.symm;have eL:env.locals=s.heap.objs.size:=congrArg ux he.symm;have st:iB ⟨env,[]⟩ (eW r.st):=⟨eS,FF.kind,congrArg uw he.symm,congrArg uq he.symm,.inr ⟨r,eE,congrArg zY he.symm,congrArg zZ he.symm⟩,λy z c h1=>(by rewrite [<-he] at h1;cases h1),λy hy=>hy.elim (λhy=>absurd rfl (om _ (mem_lookup hy))) λhy=>absurd (FF.n9 _ _ hy) (by simp)⟩;clear he;have has:∀(hh:Heap),(∀ob,h₁.get? s.heap.objs.size=some ob->hh.get? s.heap.objs.size=some ob)->∀k v,k∈f1.aw->(((f1.aw.map nm).zip ([.ref x,sy,v2]++[])).reverse.lookup (nm k))=some v->iO hh env (nm k) v:=λhh hk k v hp e=>
  .inl ⟨by unfold cY;rw[eS];show qX k hp,_,by rw[eL];show nu.at' hk,e⟩
 have M8:(((f1.aw.map nm).zip ([.ref x,sy,v2]++[])).reverse.lookup (nm 22))=some (.ref x):=by
  show kz (nm 22) [(nm 24,v2),(nm 23,sy),(nm 22,.ref x)]=_;rw[bA,ajB,bA,ake,bA];simp
 have VY:(((f1.aw.map nm).zip ([.ref x,sy,v2]++[])).reverse.lookup (nm 23))=some sy:=by
  show kz (nm 23) [(nm 24,v2),(nm 23,sy),(nm 22,.ref x)]=_;rw[bA,VP,bA];simp
 have VZ:(((f1.aw.map nm).zip ([.ref x,sy,v2]++[])).reverse.lookup (nm 24))=some v2:=by
  show kz (nm 24) [(nm 24,v2),(nm 23,sy),(nm 22,.ref x)]=_;rw[bA];simp
 have et:=old _ _ hx;have M9:x≠s.heap.objs.size:=b9 (bM hx);obtain⟨C1,C2⟩:=M7 cx;have lG:=old _ _ (stays _ _ C1);have V0:=(C2.keeps stays).keeps old;have V1:x≠38:=λq=>by
  clear h has nA nu M9 M8 VY VZ;subst q
  nomatch stays _ _ C1,hx;cases hd
 have Nb:(37:Nat)≠x:=λq=>by
  obtain⟨o2,es,ep,e1,e2,_⟩:=C2.keeps stays
  nomatch q,hx,e1;nomatch hd,e2
 have bd:qR (eW r.st) [.asg (.attr (.v 22) 23) (.v 23),.asg (.attr (.v 22) 24) (.v 24)] (vG r.st)=true:=FF.body;rcases My bd with⟨e,_⟩ | ⟨z1,r1,e1,b1,b2⟩
 ·cases e
 rcases My b2 with⟨e,_⟩ | ⟨z2,r2,e2,b3,b4⟩
 ·cases e
 have e3:r2=[]:=by
  cases r2 with
  |nil=>rfl
  |cons _ _=>show(aF b4).elim
 subst e3;rw[e1,e2];exact pF (VX (f:=⟨_,[]⟩) st b1 (has h₁ (λ_ q=>q) 23 sy (by decide) VY) (has h₁ (λ_ q=>q) 22 _ (by decide) M8) ?_);exact ajP F.store_Exception lG V0 (VL _) (VM _) VN et hc (λc q=>by nomatch hd,q) D9 λh2 vW g1 g2 g3=>?_
 have hD:h₁.objs.size≠x:=sS (bM et);have I2:h2.Inst x 38 (λy=>if y=nm 23 then some sy else none):=⟨_,g1,hc,λc q=>(by nomatch hd,q),.inr ⟨_,rfl,hD,g2⟩⟩
 exact pF (VX (f:=⟨_,[]⟩) st b3 (has h2 (λ_ q=>g3 _ _ (aj M9) q) 24 v2 (by decide) VZ) (has h2 (λ_ q=>g3 _ _ (aj M9) q) 22 _ (by decide) M8) ?_);exact store_attr (ns:=[nm 23]) F.store_Exception (g3 _ _ (aj V1) lG) (V0.at' λob q=>g3 _ _ Nb q) (VL _) (amX _) aoz V1 I2 (λh3 v7 I3 g4 g5=>?_) (λy hy=>?_) (by rw[cq];decide)
 ·exact mF ?_;obtain⟨o1,j1,j2,j3,_,j5⟩:=g5 _ g1;exact h h3 v7 o1 j1 (j2.trans hc) (j3.trans hd) (λd q=>?_) ⟨_,I3,?_⟩ λb ob hb V2=>g4 b ob hb (λo0 dx lE iD q=>?_) (g3 _ _ hb (old _ _ V2))
  ·have:=j5 _ rfl
   nomatch q,this
   have hs:h₁.objs.size=s.heap.objs.size+1:=vZ.1.trans (mX ..);show gf (by rw[hs];show i6 _)
  ·have:nm 23≠nm 24:=by simpa using VP
   rw[if_neg this,if_pos rfl]
  ·nomatch g1,lE
   cases iD
   subst q;show absurd (bM (old _ _ V2)) (kC _)
 ·by_cases q:y=nm 23
  ·rw[q];show .head _
  ·exfalso;apply hy;show if_neg q
def ahW{M:Model}{A:bp}{E:Value->Shared->Prop}{s:Shared}{env:aD}{x:Sem Value}{Q:Flow->Shared->Prop}(hh:A.handled=none)
  (h:ae M A x (λv s1=>∃e o vs,v=.ref e/\s1.heap.get? 38=some Eb/\s1.heap.get? e=some o/\o.cls=.ref 38/\o.data=.fields vs/\vs[1]?=some .none/\E (.ref e) s1) E s) :
  ae M A (raiseStmt env (some x) none) Q E s:=by
 have M4:(aC 38::[qa "Exception",.type "BaseException",.type "object"]).contains (.type "BaseException")=true:=by decide +kernel
 unfold raiseStmt;exact ah (aI h (λv s1 h₁=>?_) λ_ _ x=>x);obtain⟨e,o,vs,rfl,hC,he,Nc,hd,h1,hE⟩:=h₁;obtain⟨hp,g,d,tk,os⟩:=s1
 repeat (first | (with_reducible exact fY he ?_;rw[Nc]) | with_reducible exact fY hC ?_ | (with_reducible exact zC hC ?_;rw[M4]) | wp_step)
 rw[hd];exact aq ?_;rw[h1];exact aq ?_;rw[if_neg (by decide)];show aq (wpAny_raiseNew_none hh hE)
theorem aga{M:Model}(h:Heap)(hC:h.get? 38=some Eb):∃k,(k=jj\/k=ji\/k=jh)/\jm M h (jb (.ref 38)) k:=
 ⟨.machine,.inr (.inl rfl),λA Q E s kp q=>by
  obtain⟨hp,g,d,tk,os⟩:=s;show wpAny_keeperOf_exc (kp _ _ hC) q⟩
def aj3{k:Nat}{e:E}(he:SE e):SS (.raise k e):=by
 intros;intro n c nw z aA N R X hw;exact Le aA λ_ _ pos h=>ic h λ_ h=>fE h λ_ _ _ Nf h=>dy h λg gp h=>jq h λ_ d h=>jS h λ_ kk Ec h=>BJ h λ_ h=>BM h λh1 h2 h3 h4 h5 h6=>jU h2 (bq h5 (kY h6 ?_));have Gv:d9 sc [.cS k,e] [.Constant (.str (nm k)) kk Ec,d]=true:=by
  show(ns 22 (.Constant (.str (nm k)) kk Ec) && aW sc (.cS k) (.Constant (.str (nm k)) kk Ec) && (ns 22 d && aW sc e d && true))=true;rw[h3,h4,show aW sc (.cS k) (.Constant (.str (nm k)) kk Ec)=true from beq_self_eq_true (nm k)];rfl
 have w7:bC [d] f.env=[(false,eval d f.env)]:=Ai h4;have V3:wE W (.cS k) m (λv s=>v=.str k/\wE W e m (λ_ s=>X k s) X s) X Y:=⟨rfl,hw⟩;obtain⟨C1,C2⟩:=M7 c.cx;rw[arm_exec_Raise];have main:ae (ag J w) A (eval (.Call (.Name g gp) [.Constant (.str (nm k)) kk Ec,d] [] Nf) f.env) (λv s1=>∃e o vs,v=.ref e/\s1.heap.get? 38=some Eb/\s1.heap.get? e=some o/\o.cls=.ref 38/\o.data=.fields vs/\vs[1]?=some .none/\BE J w bz F f.fl Y0 s0 X (.ref e) s1) (BE J w bz F f.fl Y0 s0 X) s:=by
  rw[vT];exact ah (DT c.cx c.st c.stays h1 ?_);exact kM (P:=λh=>h.get? 38=some Eb) (by rw[noStar Gv];rfl) aga (T1 Gv ?_);have a1:aW sc (.cS k) (.Constant (.str (nm k)) kk Ec)=true:=beq_self_eq_true (nm k);exact i7 (SE.then (Tc k) c a1 V3 λv1 x1 Y1 s1 qU lE c1=>i7 (rest:=[]) (he.then c1 h3 lE.2 λv2 x2 Y2 s2 Av hX c2=>mV ?_) w7) rfl;obtain⟨e1,_⟩:=lE;subst e1;obtain⟨t1,rfl⟩:∃t,v1=.str (nm k) t:=by cases qU;show⟨_,rfl⟩
  exact⟨c2.stays _ _ C1,?_⟩;have at2:=c2.at_;have Ng:=c2.lv.fH;have eH:=c2.stays;have rm:=c2.rm;have IV:=c2.wo.IV;clear hw V3;obtain⟨hh,gg,dd,tt,oo⟩:=s2;obtain⟨r1,Ed,ha1⟩:=VQ;exact wpAny_call_exc_init PySem.F.excBase_Exception (eH _ _ C1) (C2.keeps eH) (akA _) (ha1 ▸ eH _ _ (MN c.cx (I9 Ed))) rfl (λAs x' hm=>?_) (by rw[cq];show 2<=16777216;show⟨"2.16777216"⟩);obtain⟨tp,ju,_,_⟩:=hm.there;exact ako c.cx (s:=⟨As,gg,dd,tt,oo⟩) (λb o q=>hm.keeps b o (eH b o q)) ?_ ju rfl rfl rfl λqW tk o' j1 j2 j3 j4 ⟨mA,j5,j6⟩ j7=>⟨rfl,x',o',_,rfl,?_,j1,j2,j3,rfl,k,Y2,⟨hh,gg,dd,tt,oo⟩,hX,at2,?_⟩
  ·show A.depth+(pW "type.__call__" ⟨.ref (fC 0)::([]++({ pos:=[.str (nm k) t1,v2]}:Args).pos),[]⟩).weight<1000
   have:(pW "type.__call__" ⟨.ref (fC 0)::([]++({ pos:=[.str (nm k) t1,v2]}:Args).pos),[]⟩).weight<=2:=by show _+1+0+0<=2;show dT rfl
   show⟨"A+B>1000,B.2,A+4*C+10.900",this,rm.depth⟩
  ·exact j7 38 _ (λq=>?_) (hm.keeps _ _ (eH _ _ C1));have:=hm.new;rw[<-q] at this
   nomatch eH _ _ C1,this
  ·rw[IV];have hk:∀b ob,hh.get? b=some ob->qW.get? b=some ob:=λb ob hb=>j7 b ob (λq=>by nomatch q,hm.new,hb) (hm.keeps b ob hb)
   exact⟨⟨qW,tk,rfl⟩,λb ob hb=>⟨ob,hk b ob hb,.inl rfl,.inl rfl⟩,Ng,x',rfl,hm.new,o',_,mA,t1,j1,j2,j3,j5,j6,λd hd=>?_,.inl rfl⟩;cases q:hh.get? d with
   |none=>rfl
   |some od=>
    have:=j4 d hd
    nomatch hm.keeps _ _ q,this
 exact ah (fZ (ahW c.rm.handled ?_))
 first
  |show ah (aI main (λv s1 h₁=>ah (fZ (aq h₁))) λ_ _ x=>x)
  |(simp only[evalOpt,sX];show ah (aI main (λv s1 h₁=>ah (fZ (aq h₁))) λ_ _ x=>x))
def apx:nm 23=("symbol":Str):=by kernel_rfl
def amw{b:List Sm}{x:Nat}(hb:uR b):SS (.qK b x):=by
 intros;intro n c nw z aA N R X hw;exact Lf aA λbo _ _ _ pos h=>dv h λhd h=>?_;cases hd with | ExceptHandler _ _ _ hp=>?_
 exact ic h λ_ h=>dy h λg gp h=>ic h λnn h=>dv h λ_ h=>Fq h λ_ p3 h=>ic h λ_ h=>jT h λ_ q p2 h=>dy h λn' p1 h=>BM h λh1 h2 h3 h4 h5 h6=>ie h6 λh6 h7 h8=>bq h7 (bq h8 ?_);have e4:=beq_iff_eq.mp h4;subst e4;have hnn:n'=nm x:=fF h3 λa _=>beq_iff_eq.mp a;clear h h3 h4;subst hnn;have e6:q=nm 23:=by rw[apx];show beq_iff_eq.mp h6
 subst e6;have qX:sc.names.lookup (nm x)=some .local:=Ir h5;obtain⟨outer,qY,ht2⟩:=nw.top;exact wpAny_Try_except (aI (hb c nw h1 hw) (λfl s1 q=>?_) λe s1 zz=>?_)
 ·cases fl with
  |next=>show mF q
  |ret v=>show q
  |brk=>show q.elim
  |cont=>show q.elim
 ·obtain⟨k,Y',s2,hX,at2,hF⟩:=zz;rw[c.wo.IV,qY] at hF;exact VH (by rw[<-qY];show c.rm.frames) hF λs3 S3 N3=>?_;obtain⟨⟨h₃,v7,rfl⟩,kp,fH,x0,rfl,hn,o,vs,mA,t,ho,hc,hd,I,hm,Gm,hv⟩:=S3;obtain⟨x1,o1,vs1,T,oT,ts,e1,n1,n2,n3,n4,n5,n6,n7⟩:=N3;cases e1;dsimp only at kp ho I n1 n5 hv
  nomatch ho,n1
  nomatch hd,n2
  have Ay:s2.heap.get? T=none:=by
   rcases hv with q | ⟨T',_,_,q,_,q2,_⟩
   ·nomatch n3,q
   ·nomatch n3,q;show q2
  have eH:bz.StaysIn s2.heap:=at2.2.1.stays;have uV:bz.StaysIn h₃:=λb ob hb=>by
   obtain⟨o',e',_,q⟩:=kp b ob (eH b ob hb);rcases q with rfl | ⟨_,q⟩
   ·show e'
   ·nomatch hb,q
  obtain⟨C1,C2⟩:=M7 c.cx;obtain⟨hk,L',hf,V4,VJ,mm,Jw⟩:=fH f.env (.head _)
  nomatch ht2,hf
  have nq:f.env.scope.kind=.function:=by rw[c.st.se];show c.st.kind
  have hl:f.env.kindOf (nm x)=some .local:=by unfold cY;rw[c.st.se];show qX
  have iR:(f.env.scope.kind == .class || (f.env.scope.kind == .module && f.env.locals != f.env.globals))=false:=by rw[nq];rfl
  exact wpAny_handleBy_cons (codeAny_handlers_test (DT (s:={ s2 with heap:=h₃,toks:=v7}) c.cx c.st uV h2 ?_)) (by intro q;cases q)
  exact wpAny_excMatches_sub_self (uV _ _ C1) ho hc (by decide +kernel) ?_;dsimp only;rw[if_pos rfl];dsimp only;exact codeAny_handlers_suite_as (wpAny_setFlight_none ho hd n3 n5 n6 (rV.mp n7).1 ?_);have other:∀b,b≠T->(h₃.update T (fu (·.setIfInBounds 3 dK))).get? b=h₃.get? b:=λb hb=>kK _ _ (aj hb);generalize hg:h₃.update T (fu (·.setIfInBounds 3 dK))=g at other;have kg:Kept bz Y' s2.heap g:=λb ob hb=>by
   obtain⟨o',e',u⟩:=kp b ob hb;show⟨o',(other b λq=>by nomatch q,Ay,hb).trans e',u⟩
  have V5:g.Ns f.env.locals mm:=by
   obtain⟨oL,es,ep,q1,q2,q3⟩:=Jw;obtain⟨o',e',u,_⟩:=kg _ _ q1;show⟨o',es,ep,e',u.data.trans q2,q3⟩
  have Nh:g.get? x0=some o:=(other x0 (aj n4)).trans ho;have dAt:∀d,o.dict=some d->d≠x0/\h₃.Ns1 d mA:=λd lF=>by
   obtain⟨o2,e2,_,_,r2⟩:=I
   nomatch ho,e2
   rcases r2 with⟨a,_⟩ | ⟨d2,a,b2,c2⟩
   ·nomatch lF,a
   ·nomatch lF,a;show⟨b2,c2⟩
  have Ig:g.Inst x0 38 mA:=MX I ho Nh rfl (λc q=>by nomatch hd,q) rfl λd od lF vV=>(other d λq=>by
   obtain⟨_,o3,es,ep,f1,f2,_⟩:=dAt d lF
   nomatch q,n5,f1
   nomatch n6,f2).trans vV
  have hLx:x0≠f.env.locals:=λq=>by
   obtain⟨oL,es,ep,q1,q2,q3⟩:=Jw;rw[<-q,hn] at q1;cases q1
  have V6:At J w bz nil Y0 s0 Y' { s2 with heap:=g,toks:=v7}:=at2.kept kg
  have mug:=(Vx at2.2.1 kg).2;exact zr (s:={ s2 with heap:=g,toks:=v7}) hl V5 (λh₄ Ni k4=>?_) iR
  have V7:s0.heap.get? f.env.locals=none:=nw.loc;obtain⟨oL,es,ep,hL,V8,hLr⟩:=id V5;have Gw:¬ bu Y' g f.env.locals:=λq=>VJ ((mug _).mp q);have Gh:=aba V6.2.1 hL (.inl ⟨es,ep,V8⟩) Gw;obtain⟨V9,nm4⟩:=V6.Jl (s:={ s2 with heap:=g,toks:=v7}) (tk:=v7+1) hL Gw V7 V4 Gh (λzz=>by obtain⟨us,q,t,e1,_⟩:=zz;nomatch V8,e1) k4.extBut
  have I4:h₄.Inst x0 38 mA:=MX Ig Nh ((k4.2 x0 hLx).trans Nh) rfl (λc q=>by nomatch hd,q) rfl λd od lF vV=>(k4.2 d λq=>by
   have:=Gm d lF;obtain⟨oL,es,ep,q1,q2,q3⟩:=Jw;rw[q] at this
   nomatch this,q1).trans vV
  have hH:iO h₄ f.env (nm x) (.ref x0):=.inl ⟨hl,_,Ni,if_pos rfl⟩;have uW:bz.StaysIn h₄:=V9.2.1.stays;exact pF (zR (Attribute_any_ (hH.eval (s:={ s2 with heap:=h₄,toks:=v7+1}) c.st ?_) (by rw[zE];rfl)))
  exact akD PySem.F.attrBase_Exception (uW _ _ C1) (C2.keeps uW) (aoh _) (anr _) (VM _) VN I4 hm rfl ?_;dsimp only;exact wpAny_nameGoes hl Ni iR λh₅ m5 ns5 k5=>?_;obtain⟨oL4,es4,ep4,hL4,Nj,_⟩:=id Ni;obtain⟨at5,_⟩:=V9.Jl (s:={ s2 with heap:=h₄,toks:=v7+1}) (tk:=v7+1+1+1) hL4 nm4 V7 V4 Gh (λzz=>by obtain⟨us,q,t,e1,_⟩:=zz;nomatch Nj,e1) k5.extBut
  show⟨.str k,Y',.str k t,hX,at5⟩
set_option tactic.hygienic true
def alq:SE .stop:=by
 intros;intro n c ex aA Q X hw;show hw.elim
def Wa{l:List E}:SE (.oG l):=by
 intros;intro n c ex aA Q X hw;show hw.elim
def ai6{a:E}:SB (.isTrue a):=by
 intros;intro n c ex aA K X hw;show hw.elim
def AE(e:E):Prop:=SE e/\SB e/\FY e
theorem akt{e:E}(he:SE e)(hp:∀sc ex,aW sc e ex=true->plainT ex=true)(hb:∀W m K X Y,wB W e m (wE W e m) K X Y=wE W e m (λv s=>truth v λt=>K t s) X Y)(hs:∀W m K X Y,vM W e m (wE W e m) K X Y=wE W e m (vL K) X Y):AE e:=⟨he,Tj he hp hb,UA he hs⟩
theorem Cr{e:E}(he:SE e)(hb:SB e)(hs:∀W m K X Y,vM W e m (wE W e m) K X Y=wE W e m (vL K) X Y):AE e:=⟨he,hb,UA he hs⟩
def Wb:E->Bool
 | .not _=>false
 | .jG _ _ _=>false
 | .and _ _=>false
 | .or _ _=>false
 | .cmp _ _ _=>false
 | .lj _ _ _ _ _=>false
 | .isTrue _=>false
 | .oG _=>false
 |_=>true
def apy{e:E}(hp:Wb e=true)(sc:Scope)(ex:Expr)(h:aW sc e ex=true):plainT ex=true:=by
 cases e<;>first
  |show(aF hp).elim
  |show(aF h).elim
  |show jS h λ_ _ _ _=>rfl
  |show dy h λ_ _ _=>rfl
  |show jT h λ_ _ _ _=>rfl
  |show Fi h λ_ _ _ _ _=>rfl
  |show Fp h λ_ _ _=>rfl
  |show uG h λ_ _ _ _=>rfl
  |show Fj h λ_ _ _ _=>rfl
  |show nh h λ_ _ _ _=>rfl
  |show fE h λ_ _ _ _ _=>rfl
  |show BD h λ_ _ _ _ _=>rfl
  |show(dO.mp h).elim (λh=>jS h λ_ _ _ _=>rfl) λh=>wF h λ_ _ _ h=>fF h λh _=>lC h rfl
def iE{e:E}(he:SE e)(hp:Wb e=true:=by rfl):AE e:=by
 exact akt he (apy hp) ?_ ?_
 ·clear he;cases e<;>first | show(aF hp).elim | show λ_ _ _ _ _=>rfl
 ·clear he;cases e<;>first | show(aF hp).elim | show λ_ _ _ _ _=>rfl
mutual
theorem aab:∀e:E,AE e
 | .stop=>iE alq
 | .cN=>iE apf
 | .cB b=>iE (apc b)
 | .cI i=>iE (aoW i)
 | .cS k=>iE (Tc k)
 | .v x=>iE (anP x)
 | .glob a=>iE (amx a)
 | .attr e k=>iE (amc (aab e).1)
 | .ar o a b=>iE (api (aab a).1 (aab b).1)
 | .not e=>Cr (amZ (aab e).1) (amN (aab e).2.1) (λ_ _ _ _ _=>rfl)
 | .jG c a b=>Cr (aos (aab c).2.1 (aab a).1 (aab b).1) (anO (aab c).2.1 (aab a).2.1 (aab b).2.1) (λ_ _ _ _ _=>rfl)
 | .and a b=>Cr (anY (aab a).1 (aab b).1) (anN (aab a).2.1 (aab b).2.1) (λ_ _ _ _ _=>rfl)
 | .or a b=>Cr (ao5 (aab a).1 (aab b).1) (apd (aab a).2.1 (aab b).2.1) (λ_ _ _ _ _=>rfl)
 | .cmp o a b=>Cr (aol (aab a).1 (aab b).1) (aon (aab a).1 (aab b).1) (λ_ _ _ _ _=>rfl)
 | .lj o p a b c=>Cr (amj (aab a).1 (aab b).1 (aab c).1) (amt (aab a).1 (aab b).1 (aab c).1) (λ_ _ _ _ _=>rfl)
 | .list l=>iE (alu (qZ l).1)
 | .tup l=>iE (am6 (qZ l).1)
 | .gN=>iE akG
 | .idx e i=>iE (anR (aab e).1 (aab i).1)
 | .lu e lo hi=>iE (aob (aab e).1 (Wc lo) (Wc hi))
 | .qJ e=>iE (amm (aab e).1)
 | .call f l=>iE (amq (qZ l).1)
 | .new c l=>iE (aok (qZ l).1)
 | .bN e k l=>iE (ami (aab e).1 (qZ l).1)
 | .bi b l=>iE (aoS (qZ l).1)
 | .lm m e l=>iE (aou (aab e).1 (qZ l).1)
 | .items e=>iE (ajD (aab e).1)
 | .isTrue e=>Cr (ajf (aab e).1) ai6 (λ_ _ _ _ _=>rfl)
 | .Bt e=>iE (anG (aab e).1)
 | .gO f l aw b aG=>iE (aj9 λe he=>((qZ l).2 e he).1)
 | .kh x l=>iE (ajw (qZ l).1)
 | .comp e t src ifs=>iE (al3 (aab e).1 (aab src).2.2 λe he=>((qZ ifs).2 e he).2.1)
 | .oG l=>⟨Wa,Tj Wa (λ_ _ h=>fE h λ_ _ _ _ _=>rfl) (λ_ _ _ _ _=>rfl),ajI (qZ l).1⟩
theorem qZ:∀l:List E,nH l/\∀e∈l,AE e
 | []=>⟨Ti,λ_ h=>by cases h⟩
 |e::l=>⟨aj1 (aab e).1 (qZ l).1,λx h=>by
  rcases az.mp h with q | q
  ·rw[q];show aab e
  ·show(qZ l).2 x q⟩
theorem Wc:∀o:Option E,SO o
 |none=>trivial
 |some e=>(aab e).1
end
theorem Wd:∀t:Tg,ST t
 | .v x=>aoo x
 | .attr e k=>ama (aab e).1
 | .idx e i=>am8 (aab e).1 (aab i).1
 | .lu e lo hi=>anz (aab e).1 (aab lo).1 (aab hi).1
theorem Wf:∀l:List Tg,D6 l
 | []=>amv
 |t::l=>ajF (Wd t) (Wf l)
def amA:SS .stop:=by
 intros;intro n c nw z aA N R X hw;show hw.elim
mutual
theorem apu:∀a:Sm,SS a
 | .stop=>amA
 | .asg t e=>amY (Wd t) (aab e).1
 | .ly ts e=>anZ (Wf ts) (aab e).1
 | .ex e=>aoE (aab e).1
 | .iff c a b=>anj (aab c).2.1 (Ct a) (Ct b)
 | .jH c b=>aom (aab c).2.1 (Ct b)
 | .cD t e b=>alr (aab e).2.2 (Ct b)
 | .ret e=>aoj (aab e).1
 | .raise k e=>aj3 (aab e).1
 | .qK b x=>amw (Ct b)
theorem Ct:∀l:List Sm,uR l
 | []=>amo
 |a::l=>akj (apu a) (Ct l)
end
def ahP{cs:Env}{k:Nat}(h:k∈cs.map (·.1)):∃v,lk cs k=some v:=by
 induction cs with
 |nil=>cases h
 |cons p r ih=>
  obtain⟨j,u⟩:=p;show ∃v,(match ai j k with | true=>some u | false=>lk r k)=some v
  cases q:ai j k with
  |true=>show⟨u,rfl⟩
  |false=>
   rcases az.mp h with e | e
   ·rewrite [e] at q;simp at q
   ·show ih e
def ajA:∀(l:List (Str×Value)),(l.map (·.1)).Nodup->∀z v,l.lookup z=some v->l.reverse.lookup z=some v:=by
 intro l;induction l with
 |nil=>intro _ z v h;cases h
 |cons a r ih=>
  obtain⟨n1,v1⟩:=a;intro Ao z v h
  rewrite [bQ,aX] at Ao
  rw[sk,agM]
  rewrite [bA] at h
  cases e:z == n1 with
  |true=>
   rewrite [e] at h
   have:r.reverse.lookup z=none:=by
    cases hh:r.reverse.lookup z with
    |none=>rfl
    |some u=>
     have:(z,u)∈r.reverse:=mem_of_lookup hh;show absurd (aQ.mpr ⟨(z,u),List.mem_reverse.mp this,beq_iff_eq.mp e⟩) Ao.1
   rw[this];dsimp only;rw[e,if_pos rfl];show h
  |false=>rewrite [e] at h;rw[ih Ao.2 z v h]
def ajV{F:dw}(cx:Cx w bz){k n:Nat}(wo:IU J w bz F (Wn k) n)(A:bp)(f:Act)(fa:Nat)(p:List Nat)(b:E)(cs:Env)(vs:List Value)(xs:List V)(Q:V->So->Prop)(Y0:So)(s0:Shared)(Y:So)(s:Shared)(rm:rK A f (n+2))(fH:uL bz Y s.heap f.fl)
  (at_:At J w bz nil Y0 s0 Y s) (iR:nj bz Y s.heap fa p b cs) (hv:bD vs xs) (hw:(Wn (k+1)).nS p b cs xs Q Y):cW (ag J w) A (.call (.ref fa) ⟨vs,[]⟩) (λres s'=>match res with
   | .ok (.ret v)=>GE J w bz Y0 s0 Q v s'
   |_=>False) s:=by
 obtain⟨q1,hw⟩:=Al hw;obtain⟨q2,hw⟩:=Al hw
 ·skip
  obtain⟨ar,bo,inner,c',iP,cl,q,pm,sc,cps,e1,e2,e3,e4,e5,e6,⟨e7,e7a,e7b⟩,e8⟩:=iR;have LF:=Uc e5;obtain⟨b1,b2,b3⟩:=Vq LF.Ma;obtain⟨a1,a2,a3,a4⟩:=Vp LF.plain;have stays:=at_.2.1.stays;have I:=at_.2.1;have hl:xs.length=p.length:=bL q1;have hnm:(ar.args.map (·.arg))=p.map nm:=Vm LF.rM;have om:∀y∈inner.names,y.2≠.cell:=λy hy e=>by
   rcases LF.n9 y hy with⟨z,_⟩ | ⟨z,_⟩ | z<;>rw[z] at e<;>cases e
  have nd:p.Nodup:=by
   rewrite [bx] at q2
   have h1:=bL q2.2;rcases p with _ | ⟨y,_ | _⟩<;>simp at h1 ⊢
  ·have dD:(p.map nm).Nodup:=Jv nd;have Jp:vs.length=(p.map nm).length:=by rw[bP,hv.len,hl]
   exact kla_callFunE (by rw[MR];have:=rm.depth;show⟨"A>1000,A+4*(B+2)+10.900",this⟩) e1 rfl b3 b2 rfl e3 ?_;rw[bind_none (fd:=kla_fn "<lambda>" q ar bo inner cl pm (.ref c') iP) a1 hnm a2 a3 a4 rfl Jp dD];exact aq (tJ (scope:=inner) om (λy hy=>?_) (λh₁ nu vZ=>⟨(cx.lim.keeps stays).fresh _ vZ,kla_codeExpr ?_⟩) b1)
   ·obtain⟨i,hi,e⟩:=aQ.mp (ky (show(y.1,y.2)∈_ from hy)).1;rw[<-e];show LF.pl i hi
   ·show ae (ag J w) (A.deeper (envX q inner s.heap.objs.size fa (.ref c') cl)) (eval bo (envX q inner s.heap.objs.size fa (.ref c') cl)) _ _ _;generalize he:envX q inner s.heap.objs.size fa (.ref c') cl=env;have eS:env.scope=inner:=congrArg uy he.symm;have eL:env.locals=s.heap.objs.size:=congrArg ux he.symm;have eG:env.globals=mainGlobals:=congrArg uw he.symm;have eB:env.builtins=builtinsNs:=congrArg uq he.symm;have eC:env.cells=cl:=congrArg zW he.symm;have eF:env.frame=some s.heap.objs.size:=congrArg zX he.symm;clear he;have kd:∀y,env.kindOf y=inner.names.lookup y:=λy=>by unfold cY;rw[eS]
    have gr:Grows s.heap h₁:=λb ob e=>vZ.extBut b ob (b9 (bM e)) (aZ _ e);have S:Step nil Y Y s.heap h₁:=.grow I gr;have dI:∀b,s.heap.get? b=none->bz.get? b=none/\Y b=none/\¬ bu Y h₁ b:=λb hb=>by
     exact⟨?_,I.unset hb,DY I (λb o e=>⟨o,gr b o e,λ_ _ _=>rfl⟩) hb⟩;cases q:bz.get? b with
     |none=>rfl
     |some o=>have:=stays b o q;nomatch hb,this
    have v5:s.heap.get? s.heap.objs.size=none:=nY _;have B5:((p.map nm).zip vs).map (·.1)=p.map nm:=by
     rw[mw];rw[Jp];show cy _
    have c:Cn J w bz F (Wn k) (A.deeper env) ⟨env,env::f.fl⟩ inner (ups p xs cs) Y s Y { s with heap:=h₁,toks:=s.toks+((p.map nm).zip vs).length} n:=by
     exact⟨cx,wo,⟨rm.handled,ui rm.frames,?_,?_⟩,⟨eS,b1,eG,eB,.inl λx hx=>om _ (mem_lookup hx) rfl,λx y c h1 h2=>by rewrite [eC] at h1 h2;show e7b x y c h1 h2,λy hy=>?_⟩,⟨⟨_,by rw[eL];show nu⟩,by rw[eL];show(dI _ v5).2.2,by rw[eL];show(dI _ v5).1,λy cc hc=>?_,λy v MT hy=>?_,λenv he=>?_⟩,(At.refl I).grow gr⟩
     ·show A.depth+1+4 * (n+1)+10<=900;have:=rm.depth;show⟨"A+1+4*(B+1)+10.900,A+4*(B+2)+10.900",this⟩
     ·show A.units+3+40 * (n+1)+100<=9000;have:=rm.units;show⟨"A+3+40*(B+1)+100.9000,A+40*(B+2)+100.9000",this⟩
     ·rcases hy with hy | hy
      ·show absurd rfl (om _ (mem_lookup hy))
      ·rcases LF.n9 _ (mem_lookup hy) with⟨z,_⟩ | ⟨_,⟨i,hi,z⟩,_⟩ | z
       ·cases z
       ·obtain⟨v,hv⟩:=ahP (cs:=cs) (k:=i) (e7 ▸ hi);obtain⟨cc,rv,z1,_⟩:=e8 i v hv;dsimp only at z;rw[<-z,eC];show⟨cc,z1⟩
       ·cases z
     ·rewrite [eC] at hc
      obtain⟨i,v,rfl,hv⟩:=e7a y cc hc;obtain⟨c2,rv,z1,⟨o,z2,Nk⟩,z3,z4,z5⟩:=e8 i v hv;have:c2=cc:=bR (z1.symm.trans hc);subst this;show⟨⟨_,o,gr _ _ z2,Nk⟩,λm=>z4 ((bu.grow I gr).mp m),z5⟩
     ·rcases Vu (bz:=bz) (Y:=Y) (h:=s.heap) nd hv.vc hl.symm hy with⟨h1,rv,h2,h3⟩ | ⟨_,h2⟩
      ·exact VC.has S h3 (.inl ⟨(kd _).trans (LF.pl y h1),_,by rw[eL];show nu,?_⟩);show ajA _ (by rw[B5];show dD) _ _ h2
      ·obtain⟨c2,rv,z1,⟨o,z2,Nk⟩,z3,z4,z5⟩:=e8 y v h2;have hyc:y∈cps:=e7 ▸ Ud h2;show VC.has (h:=s.heap) S z3.vc (.inr ⟨.inr ((kd _).trans (LF.cps y hyc)),c2,by rw[eC];show z1,o,gr _ _ z2,Nk⟩)
     ·rcases az.mp he with e | he
      ·rw[e];show⟨by rw[eS,b1];decide,s.heap.objs.size,eF,(dI _ v5).1,(dI _ v5).2.2,_,nu⟩
      ·show fH.step S env he
    exact aI ((aab b).1 c e6 hw) (λv s' zz=>by obtain⟨y,Y',h1,h2,h3⟩:=zz;show⟨y,Y',h1,h2,at_.trans h3⟩) λ_ _ q=>q.no
theorem Nm(cx:Cx w bz):∀k:Nat,IU J w bz (FI bz) (Wn k) (2 * k)
 |0=>⟨rfl,rfl,λc k f h=>Vh h,λc f h=>Vi h,λi xs Q X Y h=>h.elim,λi r hr A f vs xs Q X Y0 s0 Y s rm fH at_ hv hw=>hw.elim,λA f fa p b cs vs xs Q Y0 s0 Y s rm fH at_ hc hv hw=>hw.elim⟩
 |k+1=>⟨rfl,rfl,λc k f h=>Vh h,λc f h=>Vi h,λi xs Q X Y h=>by
   obtain⟨fd,hf,_⟩:=vR h;obtain⟨r,hr,_⟩:=ML Ly hf;show⟨r,hr⟩,λi r hr A f vs xs Q X Y0 s0 Y s rm fH at_ hv hw=>ai8 cx anH Ct (Nm cx k) i r hr A f vs xs Q X Y0 s0 Y s rm fH at_ hv hw,
  λA f fa p b cs vs xs Q Y0 s0 Y s rm fH at_ hc hv hw=>ajV cx (Nm cx k) A f fa p b cs vs xs Q Y0 s0 Y s rm fH at_ hc hv hw⟩
end
end Tactic
namespace Tactic
open PySem PySem.W PySem.Calls PyProof.Rows PySem.Spec Lh.Tactic
noncomputable section
def aka(K:Nat):Prop:=∀(a:Nat) (l:List Int),a≠884->l.length<=63->(Wn K).call 0 [.ref a] (λv _=>v=.bool true) bW (put (put (λ_=>none) 884 (.tup [.str 16])) a (.fL (l.map V.int)))
def anK(P:ak):tP.map (λa=>(s8 P default).tree.get a)=tP.map (λa=>some (iA P a)):=by kernel_rfl
def akv(P:ak):tP.map (λa=>alive (iA P a))=tP.map (λa=>some (hZ #[])):=by kernel_rfl
def apg:(tP.all λa=>dU a 1146)=true:=by decide +kernel
def Nn(P:ak){a:Nat}(h:a∈tP):(H1 P).get? a=some (hZ #[]):=by
 have h1:=IL (anK P) a h;have h2:=IL (akv P) a h;have h3:a<1146:=dT (aY.mp apg a h);show(abs_get (t:=(s8 P default).tree) (n:=1146) (life:=(s8 P default).life) h3 h1).trans h2
def qF:Data->Array Value
 | .fields vs=>vs
 |_=>#[]
def qS:Value->Str×Tok
 | .str s t=>(s,t)
 |_=>default
def qI:Value->Int×Tok
 | .int s t=>(s,t)
 |_=>default
def qB:Value->Bool
 | .bool b=>b
 |_=>true
def qV(P:ak)(p:FR×Nat)(i:Nat):Value:=(qF (iA P p.1.cd).data).getD i .none
def amg(P:ak):((fT.zip tP).map λp=>((iA P p.1.cd).cls,(iA P p.1.cd).data,(qF (iA P p.1.cd).data)[11]?,qV P p 11,qV P p 18,qV P p 7,qV P p 9,qV P p 10,ai p.1.cd p.2))=(fT.zip tP).map λp=>(.type "code",.fields (qF (iA P p.1.cd).data),some (.ref p.2),.ref p.2,.str (qS (qV P p 18)).1 (qS (qV P p 18)).2,.int (qI (qV P p 7)).1 (qI (qV P p 7)).2,.bool (qB (qV P p 9)),.int (qI (qV P p 10)).1 (qI (qV P p 10)).2,false):=by kernel_rfl
def anD(P:ak):iA P 884=T [S "boundary" 1396]:=by kernel_rfl
def an1:kA.contains 884=true:=by decide +kernel
def akb:rI "law"=some (.ref 1145):=by kernel_rfl
theorem apK:∃r,fT[0]?=some r/\r.a=1145:=⟨_,rfl,rfl⟩
def qD:Data->Array fk×Nat
 | .dict e p=>(e,p)
 |_=>default
def ank(P:ak):∃o es ep,(H1 P).get? 1=some o/\o.data=.dict es ep:=by
 have e:((s8 P default).tree.get 1).map (λo=>(alive o).map (·.data))=some (some (.dict (qD ((((s8 P default).tree.get 1).bind alive).getD default).data).1 (qD ((((s8 P default).tree.get 1).bind alive).getD default).data).2)):=by kernel_rfl
 obtain⟨o,h1,h2⟩:=mC.mp e;obtain⟨ob,h3,h4⟩:=mC.mp h2;show⟨ob,_,_,(abs_get (t:=(s8 P default).tree) (n:=1146) (life:=(s8 P default).life) (by decide) h1).trans h3,h4⟩
def ints_of{R:WRecords}{cl:Str->Option bU}{h:Heap}:∀{xs:List WData}{vs:List Value}{as:List bU},ReadsAllW R cl h vs xs as->WShape.hasItems R xs .int=true->∃l:List Int,bD vs (l.map V.int)/\l.length=xs.length:=by
 intro zl;induction zl with
 |nil=>
  intro vs as hr _;cases hr;show⟨[],.nil,rfl⟩
 |cons d xs ih=>
  intro vs as hr h;have h':(WShape.has R d .int && WShape.hasItems R xs .int)=true:=h
  rewrite [bx] at h'
  cases hr with
  |cons a b=>
   obtain⟨l,h1,h2⟩:=ih b h'.2;obtain⟨i,rfl⟩:=hasW_int h'.1;cases a;show⟨i::l,.cons (.int _ _) h1,by simp[h2]⟩
def Np{t:Nat×Nat×String}(h:t∈tabs):t.2.1∈tP/\∃r∈fT,(r,t.2.1)∈fT.zip tP/\t.1=r.cd/\t.2.2=r.ql:=by
 unfold tabs at h;obtain⟨q,hq,rfl⟩:=aQ.mp h;show⟨(ky hq).2,q.1,(ky hq).1,hq,rfl,rfl⟩
def aof{a:Nat}(h:a∈tP):FE a:=by
 obtain⟨i,hi,e⟩:=gT h;have hz:i<(fT.zip tP).length:=by rw[show(fT.zip tP).length=tP.length by decide +kernel];show hi
 exact⟨((fT.zip tP)[i].1.cd,(fT.zip tP)[i].2,(fT.zip tP)[i].1.ql),aQ.mpr ⟨(fT.zip tP)[i],gU hz,rfl⟩,?_⟩;show a=(fT.zip tP)[i].2;rw[oX,e]
def ape:nm 16=ax "boundary":=by kernel_rfl
def alP(xs:List WData):eV.row.toRowW.claim.post [.list xs] (.bool true) [.list xs]=true:=by
 show(WShape.has eV.row.toRowW.records (.bool true) .bool && WTm.holds eV.row.toRowW.records (.eq .res (.lit (.bool true))) { args:=[.list xs],res:=some (.bool true),after:=[.list xs]})=true
 rw[bx];exact⟨by kernel_rfl,?_⟩;unfold WTm.holds;rw[w_eq_bool (w_res rfl) w_lit];rfl
def join{K:Nat}(hK:K<=60)(hp:aka K):QV:=by
 intro w s0 s1 mg mb G Yy a o pm cd doc dV kV ha hd Ea Gm hmg Gx args vals as Nq hlay Cu Wg has;have xc:∀(b:Nat) (ob:Obj),s1.heap.get? b=some ob->ob≠hZ #[]->b∉tP:=λb ob e ne m=>by
  have:=Yy _ _ (Nn w.params m)
  nomatch e,this;show ne rfl
 have st:(d6 s1.heap tP).StaysIn s1.heap:=λb ob e=>of_hideAll _ e;have Ga:∀b ob,s1.heap.get? b=some ob->ob≠hZ #[]->(d6 s1.heap tP).get? b=some ob:=λb ob e ne=>qb _ e (xc b ob e ne);have qk:∀L m,s1.heap.Ns L m->(d6 s1.heap tP).Ns L m:=λL m zz=>by obtain⟨o,es,ep,e,hd,r⟩:=zz;show⟨o,es,ep,Ga _ _ e (λq=>by nomatch q,hd),hd,r⟩
 have Jy:(KF w.params).In (d6 s1.heap tP):=λb ob e=>by
  obtain⟨h1,rfl⟩:=ahL e;exact qb _ (Yy _ _ (aoV w.params h1)) λm=>?_;have:=aY.mp akF b h1;have h2:(tP.any λp=>ai p b)=true:=mr.mpr ⟨b,m,by simp⟩
  nomatch h2,this
 have cx:Cx w (d6 s1.heap tP):=by
  exact⟨Jy,?_,⟨mb,qk _ _ G.T.b,G.T.builtins⟩,⟨mg,qk _ _ G.T.g,?_⟩,λt ht=>?_,?_⟩
  ·obtain⟨mc,h1,h2⟩:=G.T.nolimit;show⟨mc,qk _ _ h1,h2⟩
  ·obtain⟨bm,ob,h1,h2,h3,h4,h5,h6⟩:=G.T.bmain;show⟨bm,ob,h1,h2,Ga _ _ h3 (λq=>by nomatch q,h6),h4,h5,h6⟩
  ·obtain⟨h1,r,hr,hz,h2,h3⟩:=Np ht;have hk:=oW.mp (amg w.params) _ hz;have q8:=aY.mp S6 r hr
   rewrite [bx] at q8
   rw[h2];have g:∀{β:Type} (f:_->β),f _=f _:=λf=>congrArg f hk
   show⟨_,_,_,_,_,_,_,_,_,Jy _ _ (AG (f:=iA w.params) (gS.mp q8.2)),g (·.1),g (·.2.1),g (·.2.2.1),g (·.2.2.2.1),g (·.2.2.2.2.1),g (·.2.2.2.2.2.1),g (·.2.2.2.2.2.2.1),g (·.2.2.2.2.2.2.2.1),Nat.ne_of_beq_eq_false (g (·.2.2.2.2.2.2.2.2))⟩
  ·obtain⟨o,es,ep,h1,h2⟩:=ank w.params;show⟨o,Ga _ _ (Yy _ _ h1) λq=>by nomatch q,h2⟩
 have AI:=pre_splitW Nq;obtain⟨d,rst,rfl,w0,hd2⟩:=hasAllW_cons AI.1;obtain rfl:=hasAllW_nil hd2;obtain⟨xs,rfl,jL⟩:=hasW_list w0;have hlen:xs.length<=63:=by
  have h2:=AI.2;have qW:WTm.holds eV.row.toRowW.records (.and (.not (.lt (.lit (.int 63)) (.len (.arg 0)))) (.lit (.bool true))) { args:=[.list xs]}=true:=h2
  have e1:(WTm.arg 0).value eV.row.toRowW.records { args:=[.list xs]}=some (.list xs):=w_arg rfl
  have e2:(WTm.len (.arg 0)).value eV.row.toRowW.records { args:=[.list xs]}=some (.int xs.length):=by simp[WTm.value]
  have e3:=w_and (w_not (w_lt (w_lit (R:=eV.row.toRowW.records) (e:={ args:=[.list xs]}) (d:=.int 63)) e2)) (w_lit (R:=eV.row.toRowW.records) (e:={ args:=[.list xs]}) (d:=.bool true))
  unfold WTm.holds at qW
  rewrite [e3] at qW
  by_cases q:(63:Int)<xs.length
  ·simp[q] at qW
  ·show⟨"A.63,!63<'A",q⟩
 obtain⟨sa,BV,vs,n,Wh,h1,h2,h3,h4,hv⟩:∃sa BV vs n Wh,s1.heap.get? sa=some BV/\BV.cls=.type "list"/\BV.data=.seq vs n/\ReadsAllW eV.row.toRowW.records (classAt s0.heap) s1.heap vs.toList xs Wh/\vals=[.ref sa]:=by
  cases Cu with
  |cons a b=>
   cases b
   cases a with
   |list g1 g2 g3 g4=>show⟨_,_,_,_,_,g1,g2,g3,g4,rfl⟩
 subst hv;obtain⟨l,Jk,Gy⟩:=ints_of h4 jL;have Gz:s1.heap.get? 884=some (T [S "boundary" 1396]):=by
  have:=st _ _ (Jy _ _ (AG (f:=iA w.params) (gS.mp an1)));rw[this,anD]
 have aU:sa≠884:=λq=>by
  nomatch q,Gz,h1
  have qW:qa "tuple"=qa "list":=h2;injection qW with h;show absurd h (by decide)
 have hY:∀b o,put (put (λ_=>none) 884 (.tup [.str 16])) sa (.fL (l.map V.int)) b=some o->(b=sa/\o=.fL (l.map V.int))\/(b=884/\o=.tup [.str 16]):=λb o e=>by
  rcases lK e with⟨rfl,rfl⟩ | ⟨_,e⟩
  ·show .inl ⟨rfl,rfl⟩
  ·rcases lK e with⟨rfl,rfl⟩ | ⟨_,e⟩
   ·show .inr ⟨rfl,rfl⟩
   ·cases e
 have uK:∀b dd,¬ dh (put (put (λ_=>none) 884 (.tup [.str 16])) sa (.fL (l.map V.int))) s1.heap b dd:=λb dd ⟨c,fs,ox,e,_⟩=>by
  rcases hY _ _ e with⟨_,e⟩ | ⟨_,e⟩<;>cases e
 have inv:Inv eV.row.toRowW.prog w (d6 s1.heap tP) (put (put (λ_=>none) 884 (.tup [.str 16])) sa (.fL (l.map V.int))) s1.heap:=by
  exact⟨st,λb q e=>?_,λb ob e m=>?_,λb dd x=>absurd x (uK b dd),λb c dd x=>absurd x (uK b dd),λt ht=>?_⟩
  ·rcases hY _ _ e with⟨rfl,rfl⟩ | ⟨rfl,rfl⟩
   ·exact .fL (vs:=vs.toList) ⟨BV,h1,h2,n,by rw[h3]⟩ Jk (by rw[bP];show⟨"A.200000,B.63,A~B",hlen,Gy⟩)
   ·exact .tup (vs:=[S "boundary" 1396]) ⟨_,Gz,rfl,0,rfl⟩ (.cons ?_ .nil) (by decide);rw[show S "boundary" 1396=.str (nm 16) 1396 by rw[ape]];show .str 16 1396
  ·rcases m with⟨q,e',m⟩ | ⟨z,x⟩ | ⟨t,ht,rfl⟩
   ·rcases hY _ _ e' with⟨_,rfl⟩ | ⟨_,rfl⟩<;>cases m
   ·show uK _ _ x
   ·nomatch hideAll_none _ (Np ht).1,e
  ·show⟨#[],Yy _ _ (Nn w.params (Np ht).1),trivial,λpos cv e=>by cases e⟩
 have v8:a=1145:=by
  have:=mg_of Jy (qk _ _ G.T.g) (S8 akb);have h':mg ("law":Str)=some (.ref a):=hmg
  nomatch this,h';rfl
 subst v8;obtain⟨r0,Cv,Jz⟩:=apK;have rm:rK callerA ⟨default,[]⟩ (2 * K):=⟨rfl,rfl,by show 1+300+4 * (2 * K)+10<=900;show⟨"1+300+4*2*A+10.900,A.60;1,8",hK⟩,by show 4+40 * (2 * K)+100<=9000;show⟨"4+40*2*A+100.9000,A.60;1,80",hK⟩⟩;have main:=(Nm (J:=eV.row.toRowW.prog) cx K).call 0 r0 Cv callerA ⟨default,[]⟩ [.ref sa] [.ref sa] (λv _=>v=.bool true) bW _ s1 _ s1 rm (λe he=>by cases he) (.refl inv) (.cons (.ref _) .nil) (hp sa l aU ⟨"A.63,B.63,A~B",hlen,Gy⟩)
 rewrite [Jz] at main
 exact mK (uc main λres s' z=>?_);rcases res with e | (v | _ | _ | _)
 ·show z.no
 ·show z.elim
 ·show z.elim
 ·show z.elim
 ·obtain⟨x,Y',q1,rfl,q3⟩:=z;cases q1;obtain⟨⟨h',tk,e⟩,I',S'⟩:=q3;exact⟨.inl ⟨.bool true,.bool true,[],rfl,λcls=>rfl,.bool true,alP xs,λ_=>⟨.nil,λa ha=>by cases ha⟩⟩,⟨λb ob hb=>?_,λb ob hb=>S'.kp b ob hb⟩,by rw[e],.of_eq (by rw[e];show Gx)⟩;by_cases hq:b∈tP
  ·have h0:=Yy _ _ (Nn w.params hq)
   nomatch hb,h0
   obtain⟨t,ht,rfl⟩:=aof hq;obtain⟨ps,g1,_,_⟩:=I'.tab t ht;exact .inr (.inl ⟨?_,rfl,#[],ps,rfl,by rw[g1];simp⟩);obtain⟨oc,vc,f1,f2,f3,f4,f5,f6,f7,f8,f9,rF,vO,_⟩:=(cx.head t ht).keeps st;show⟨_,_,_,f8,f9,rF,vO⟩
  ·show .inl (I'.stays b ob (qb _ hb hq))
end
end Tactic
namespace Tactic
set_option tactic.hygienic false
variable{n i j tr y x0:Nat}{Y Y1 Y2 Y3 Y':So}{fs gs:List (Nat×V)}{m:Env}{o:O}{b:Int}{v q0:V}{t l s s':T}{Q:V->So->Prop}{M:Nat->Mp}
abbrev qN(Q:V->So->Prop):Env->So->Prop:=λ_ s=>Q .none s
theorem en{k i fd vs Q X s}(hf:fns[i]?=some fd)(h:wSs (Wn k) fd.body (ups fd.aw (vs++fd.ki) []) (qN Q) Q X s)(h1:ai (vs.length+fd.ki.length) fd.aw.length=true:=by rfl)(h2:(Gj vs || ai i 26)=true:=by rfl):(Wn (k+1)).call i vs Q X s:=By hf (aet h1 (aet h2 h))
def Wi(k:Nat):(Wn k).fw=vS:=by cases k<;>rfl
def bh{a k c x}{K:V->Prop}(h:Y a=some (.inst c fs))(hk:K x)(h1:vS c k=true:=by rfl)(h2:lk fs k=some x:=by rfl):vK (Wn n).fw (.ref a) k K Y:=by
 show Q5 h (aet (by rw[Wi];show h1) (By h2 hk))
def sat{a k c v}{fs':List (Nat×V)}{K:So->Prop}(h:Y a=some (.inst c fs))(hk:K (put Y a (.inst c fs')))(h1:vS c k=true:=by rfl)(h2:dU fs.length 900=true:=by rfl)(h3:up fs k v=fs':=by rfl):qP (Wn n).fw (.ref a) k v K Y:=by
 show Q5 h (aet (by rw[Wi];show h1) (aet h2 (by rw[h3];show hk)))
def Wj{a b c d}(ha:Y a=some (.inst c fs))(hb:Y b=some (.inst d gs)):same Y (.ref a) (.ref b)=some (ai a b):=by
 show(bif wA (Y a) && wA (Y b) then some (ai a b) else none)=_;rw[ha,hb];rfl
def Cw{a b c d}{K:Bool->Prop}(ha:Y a=some (.inst c fs))(hb:Y b=some (.inst d gs))(h1:a=b->K true)(h0:a≠b->K false):cmp .is (.ref a) (.ref b) K Y:=by
 exact By (Wj ha hb) ?_;cases h:ai a b with
 |true=>show h1 (bL h)
 |false=>show h0 λe=>by subst e;simp at h
def Wk{a b c d}{K:Bool->Prop}(ha:Y a=some (.inst c fs))(hb:Y b=some (.inst d gs))(h1:a≠b->K true)(h0:a=b->K false):cmp .cM (.ref a) (.ref b) K Y:=by
 exact By (Wj ha hb) ?_;cases h:ai a b with
 |true=>show h0 (bL h)
 |false=>show h1 λe=>by subst e;simp at h
def Suf(ks:List Nat)(ex:Env):Prop:=∃vs:List V,ex=ks.zip vs
theorem Suf.none(ks:List Nat):Suf ks []:=⟨[],by cases ks<;>rfl⟩
def Suf.up{k ks ex}(h:Suf (k::ks) ex):∃e,Suf ks e/\∀v,Tactic.up ex k v=(k,v)::e:=by
 obtain⟨vs,rfl⟩:=h;cases vs with
 |nil=>show⟨[],.none _,λv=>rfl⟩
 |cons u vs=>show⟨ks.zip vs,⟨vs,rfl⟩,λv=>by
   show(match ai k k with | true=>(k,v)::ks.zip vs | false=>(k,u)::Tactic.up (ks.zip vs) k v)=_
   rw[my]⟩
theorem Suf.nil{ex}(h:Suf [] ex):ex=[]:=let ⟨_,h⟩:=h;h
theorem Suf.cons{k ks e v}(h:Suf ks e):Suf (k::ks) ((k,v)::e):=let ⟨vs,h⟩:=h;⟨v::vs,by rw[h];rfl⟩
def Cy{a b:V}{e:Env}(h:ai i j=false):Tactic.up ((i,a)::e) j b=(i,a)::Tactic.up e j b:=by
 show(match ai i j with | true=>(i,b)::e | false=>(i,a)::Tactic.up e j b)=_
 rw[h]
def Suf.up1{k ex v}(h:Suf [k] ex):Tactic.up ex k v=[(k,v)]:=by
 obtain⟨e,h,u⟩:=h.up;rw[u,h.nil]
def Suf.three{i j k ks ex}(h:Suf (i::j::k::ks) ex)(h1:ai i j=false:=by rfl)(h2:ai i k=false:=by rfl)(h3:ai j k=false:=by rfl):∃e,Suf ks e/\∀a b c,Tactic.up (Tactic.up (Tactic.up ex i a) j b) k c=(i,a)::(j,b)::(k,c)::e:=by
 obtain⟨e1,s,u1⟩:=h.up;obtain⟨e2,s,u2⟩:=s.up;obtain⟨e3,s,u3⟩:=s.up;show⟨e3,s,λa b c=>by rw[u1,Cy h1,Cy h2,u2,Cy h3,u3]⟩
def Suf.four{i j k l ex a b c d}(h:Suf [i,j,k,l] ex)(h1:ai i j=false:=by rfl)(h2:ai i k=false:=by rfl)(h3:ai j k=false:=by rfl)(h4:ai i l=false:=by rfl)(h5:ai j l=false:=by rfl)(h6:ai k l=false:=by rfl):Tactic.up (Tactic.up (Tactic.up (Tactic.up ex i a) j b) k c) l d=[(i,a),(j,b),(k,c),(l,d)]:=by
 obtain⟨e,s,u⟩:=h.three h1 h2 h3;rw[u,Cy h4,Cy h5,Cy h6,s.up1]
def uX{step:V->Env->(Env->So->Prop)->So->Prop}{G:So->Prop}{Q:Env->So->Prop}(I:List V->Env->So->Prop)(hG:∀r m s,I r m s->G s)
  (hs:∀v r m s,I (v::r) m s->∀K:Env->So->Prop,(∀m' s',I r m' s'->K m' s')->step v m K s) (he:∀m s,I [] m s->Q m s):∀(xs:List V) (m:Env) (s:So),I xs m s->loop step G Q xs m s:=by
 intro zl;induction zl with
 |nil=>
  intro m s h;show⟨hG _ _ _ h,he m s h⟩
 |cons v r ih=>
  intro m s h;show⟨hG _ _ _ h,hs v r m s h _ λm' s' h'=>ih m' s' h'⟩
def AJ{step:V->Env->(Option V->So->Prop)->So->Prop}{G:So->Prop}{Q:List V->So->Prop}(I:List V->List V->So->Prop)(hG:∀r acc s,I r acc s->G s)
  (hs:∀v r acc s,I (v::r) acc s->∀K:Option V->So->Prop,(∀s',I r acc s'->K aP s')->(∀x s',I r (acc++[x]) s'->K (some x) s')->step v m K s) (he:∀acc s,I [] acc s->Q acc s):∀(xs acc:List V) (s:So),I xs acc s->gather step G m Q xs acc s:=by
 intro zl;induction zl with
 |nil=>
  intro acc s h;show⟨hG _ _ _ h,he acc s h⟩
 |cons v r ih=>
  intro acc s h;show⟨hG _ _ _ h,hs v r acc s h _ (λs' h'=>ih acc s' h') λx s' h'=>ih (acc++[x]) s' h'⟩
def au{a:Nat}:put Y a o a=some o:=by show(match ai a a with | true=>some o | false=>Y a)=_;rw[my]
def ao{a b:Nat}(h:b≠a):put Y a o b=Y b:=by
 show(match ai b a with | true=>some o | false=>Y b)=_
 cases e:ai b a with
 |true=>show absurd (bL e) h
 |false=>rfl
def Fr(S:List Nat)(Y Y':So):Prop:=∀b o,Y b=some o->b∉S->Y' b=some o
theorem Fr.refl{S:List Nat}:Fr S Y Y:=λ_ _ e _=>e
theorem Fr.trans{S:List Nat}(x:Fr S Y1 Y2)(y:Fr S Y2 Y3):Fr S Y1 Y3:=λb o e n=>y b o (x b o e n) n
theorem Fr.mono{S S':List Nat}(x:Fr S Y Y')(h:∀b,b∈S->b∈S'):Fr S' Y Y':=λb o e n=>x b o e λm=>n (h b m)
theorem Fr.put{S:List Nat}{a:Nat}(h:a∈S):Fr S Y (Tactic.put Y a o):=λb ob e n=>(ao λq=>n (by rw[q];show h)).trans e
theorem Fr.new{S:List Nat}{a:Nat}(h:Y a=none):Fr S Y (Tactic.put Y a o):=λb ob e n=>(ao λq=>by nomatch q,h,e).trans e
theorem Fr.k{b:Nat}(f:Fr [] Y Y')(h:Y b=some o):Y' b=some o:=f _ _ h (by simp)
abbrev nO(t:Int)(p:Nat)(l r q:V):O:=.inst 1 [(103,.int t),(63,.ref p),(95,l),(96,r),(104,q)]
abbrev lN(r:V):O:=.inst 2 [(79,r)]
theorem nB{n}{a t p l r q}{K:V->Prop}(h:Y a=some (nO t p l r q))(hk:K (.int t)):vK (Wn n).fw (.ref a) 103 K Y:=bh h hk
theorem Ee{n}{a t p l r q}{K:V->Prop}(h:Y a=some (nO t p l r q))(hk:K (.ref p)):vK (Wn n).fw (.ref a) 63 K Y:=bh h hk
theorem iF{n}{a t p l r q}{K:V->Prop}(h:Y a=some (nO t p l r q))(hk:K l):vK (Wn n).fw (.ref a) 95 K Y:=bh h hk
theorem iG{n}{a t p l r q}{K:V->Prop}(h:Y a=some (nO t p l r q))(hk:K r):vK (Wn n).fw (.ref a) 96 K Y:=bh h hk
theorem gB{n}{a t p l r q}{K:V->Prop}(h:Y a=some (nO t p l r q))(hk:K q):vK (Wn n).fw (.ref a) 104 K Y:=bh h hk
theorem Wl{n}{a r}{K:V->Prop}(h:Y a=some (lN r))(hk:K r):vK (Wn n).fw (.ref a) 79 K Y:=bh h hk
theorem Cz{n}{a t p l r q i}{K:So->Prop}(h:Y a=some (nO t p l r q))(hk:K (put Y a (nO i p l r q))):qP (Wn n).fw (.ref a) 103 (.int i) K Y:=sat h hk
theorem apM{n}{a t p l r q i}{K:So->Prop}(h:Y a=some (nO t p l r q))(hk:K (put Y a (nO t i l r q))):qP (Wn n).fw (.ref a) 63 (.ref i) K Y:=sat h hk
theorem Nr{n}{a t p l r q v}{K:So->Prop}(h:Y a=some (nO t p l r q))(hk:K (put Y a (nO t p v r q))):qP (Wn n).fw (.ref a) 95 v K Y:=sat h hk
theorem JA{n}{a t p l r q v}{K:So->Prop}(h:Y a=some (nO t p l r q))(hk:K (put Y a (nO t p l v q))):qP (Wn n).fw (.ref a) 96 v K Y:=sat h hk
theorem Nt{n}{a t p l r q v}{K:So->Prop}(h:Y a=some (nO t p l r q))(hk:K (put Y a (nO t p l r v))):qP (Wn n).fw (.ref a) 104 v K Y:=sat h hk
theorem ani{n}{a r v}{K:So->Prop}(h:Y a=some (lN r))(hk:K (put Y a (lN v))):qP (Wn n).fw (.ref a) 79 v K Y:=sat h hk
set_option genInjectivity true in
inductive T where
 |nil
 |nd (a:Nat) (l r:T) (t:Int) (p:Nat)
def T.ctorIdx(v:T):Nat:=(by cases v with | nil=>show 0 | nd=>show 1)
def T.root:T->V
 | .nil=>.none
 | .nd a _ _ _ _=>.ref a
def GA{o:Option V}{p:V->Prop}(n:ai v.ctorIdx 5=false)(h:o=some v)(k:p v):(match (generalizing:=false) o with | some (.dz _ _ _)=>False | some v=>p v | aP=>False):=by
 subst h;cases v<;>first | show k | cases n
def T.nc(s:T):ai s.root.ctorIdx 5=false:=by cases s<;>rfl
def T.ay:T->Int
 | .nil=>0
 | .nd _ _ _ t _=>t
def T.aB:T->List Nat
 | .nil=>[]
 | .nd a l r _ _=>l.aB++a::r.aB
def T.seq:T->List (Nat×Int×Nat)
 | .nil=>[]
 | .nd a l r t p=>l.seq++(a,t-l.ay-r.ay,p)::r.seq
theorem T.aO:T.nil.aB=[]:=rfl
theorem T.aN{a l r t p}:(T.nd a l r t p).aB=l.aB++a::r.aB:=rfl
theorem T.sO:T.nil.seq=[]:=rfl
theorem T.sN{a l r t p}:(T.nd a l r t p).seq=l.seq++(a,t-l.ay-r.ay,p)::r.seq:=rfl
def TR(Y:So):T->V->Prop
 | .nil,_=>True
 | .nd a l r t p,q=>Y a=some (nO t p l.root r.root q)/\TR Y l (.ref a)/\TR Y r (.ref a)
def TR.congr{q:V}(h:TR Y t q)(k:∀b∈t.aB,Y' b=Y b):TR Y' t q:=by
 induction t generalizing q with
 |nil=>trivial
 |nd a l r t p gK jM=>show⟨(k a (cQ _ (.head _))).trans h.1,gK h.2.1 λb hb=>k b (cj _ hb),jM h.2.2 λb hb=>k b (cQ _ (.tail _ hb))⟩
inductive F1 where
 |L (a:Nat) (t:Int) (p:Nat) (r:T)
 |R (a:Nat) (t:Int) (p:Nat) (l:T)
def F1.ctorIdx(v:F1):Nat:=(by cases v with | L=>show 0 | R=>show 1)
def F1.a:F1->Nat
 | .L a _ _ _=>a
 | .R a _ _ _=>a
theorem F1.aL{a t p r}:(F1.L a t p r).a=a:=rfl
theorem F1.aR{a t p l}:(F1.R a t p l).a=a:=rfl
def cV:List F1->V
 | []=>.none
 |f::_=>.ref f.a
def ao9(k:List F1):ai (cV k).ctorIdx 5=false:=by cases k<;>rfl
def CR(Y:So):V->List F1->Prop
 |_,[]=>True
 |v,.L a t p r::k=>Y a=some (nO t p v r.root (cV k))/\TR Y r (.ref a)/\CR Y (.ref a) k
 |v,.R a t p l::k=>Y a=some (nO t p l.root v (cV k))/\TR Y l (.ref a)/\CR Y (.ref a) k
def bw:List F1->List Nat
 | []=>[]
 | .L a _ _ r::k=>a::r.aB++bw k
 | .R a _ _ l::k=>a::l.aB++bw k
theorem ik:bw []=[]:=rfl
theorem il{a t p r k}:bw (.L a t p r::k)=a::r.aB++bw k:=rfl
theorem ip{a t p l k}:bw (.R a t p l::k)=a::l.aB++bw k:=rfl
def F1.JB{f:F1}{k:List F1}:f.a∈bw (f::k):=by cases f<;>show .head _
def CR.congr{k:List F1}(h:CR Y v k)(e:∀b∈bw k,Y' b=Y b):CR Y' v k:=by
 induction k generalizing v with
 |nil=>trivial
 |cons f k ih=>
  cases f with
  |L a t p r=>show⟨(e a (cj _ (.head _))).trans h.1,h.2.1.congr λb hb=>e b (cj _ (.tail _ hb)),ih h.2.2 λb hb=>e b (cQ _ hb)⟩
  |R a t p r=>show⟨(e a (cj _ (.head _))).trans h.1,h.2.1.congr λb hb=>e b (cj _ (.tail _ hb)),ih h.2.2 λb hb=>e b (cQ _ hb)⟩
def gC:T->List F1->T
 |t,[]=>t
 |t,.L a n p r::k=>gC (.nd a t r n p) k
 |t,.R a n p l::k=>gC (.nd a l t n p) k
theorem Wm{t}:gC t []=t:=rfl
def AK:V->List F1->V
 |v,[]=>v
 |_,f::k=>AK (.ref f.a) k
structure Z(Y:So)(tr:Nat)(t:T)(k:List F1):Prop where
 tt:TR Y t (cV k)
 cc:CR Y t.root k
 nd:(t.aB++bw k).Nodup
 rr:Y tr=some (lN (AK t.root k))
theorem Wq{k Q X s}(h:Q (.int 0) s):(Wn (k+1)).call 47 [.none] Q X s:=h
def Nu{k Q X Y a t p l r q}(h:Y a=some (nO t p l r q))(hq:Q (.int t) Y):(Wn (k+1)).call 47 [.ref a] Q X Y:=by
 exact en (fd:=RD) rfl ?_;exact nB h ?_;show hq
def qm{k Q X Y}{q:V}(h:TR Y t q)(hq:Q (.int t.ay) Y):(Wn (k+1)).call 47 [t.root] Q X Y:=by
 cases t with
 |nil=>show hq
 |nd a l r n p=>show Nu h.1 hq
def Nv{k Q X Y a l r t p q}(h:TR Y (.nd a l r t p) q)(hq:Q (.int (t-l.ay-r.ay)) Y):(Wn (k+2)).call 48 [.ref a] Q X Y:=by
 exact en (fd:=RG) rfl ?_;exact nB h.1 ?_;exact iF h.1 ?_;exact qm h.2.1 ?_;exact iG h.1 ?_;exact qm h.2.2 ?_;show hq
theorem gD{S:List Nat}{a b:Nat}(h:a∉S)(hb:b∈S):b≠a:=λe=>h (e ▸ hb)
def fJ(m:Int):List F1->List F1
 | []=>[]
 | .L a t p r::k=>.L a (t+m) p r::fJ m k
 | .R a t p l::k=>.R a (t+m) p l::fJ m k
theorem Wr{m a t p r k}:fJ m (.L a t p r::k)=.L a (t+m) p r::fJ m k:=rfl
theorem Ws{m a t p l k}:fJ m (.R a t p l::k)=.R a (t+m) p l::fJ m k:=rfl
def GC(m:Int)(k:List F1):cV (fJ m k)=cV k:=by
 cases k with
 |nil=>rfl
 |cons f k=>cases f<;>rfl
def aiL(m:Int):∀k:List F1,bw (fJ m k)=bw k:=by
 intro zl;induction zl with
 |nil=>
  show rfl
 |cons zx k ih=>
  cases zx with
  |L a t p r=>
   simp[Wr,Ws,ik,il,ip,ih]
  |R a t p l=>
   simp[Wr,Ws,ik,il,ip,ih]
def aim(m:Int):∀(k:List F1) (v:V),AK v (fJ m k)=AK v k:=by
 intro zl;induction zl with
 |nil=>
  intro _;show rfl
 |cons zx k ih=>
  cases zx with
  |L a t p r=>
   intro v;show ih _
  |R a t p l=>
   intro v;show ih _
def JC{n Q X m}:∀{k:List F1}{v:V}{Y:So},CR Y v k->(bw k).Nodup->(∀Y',CR Y' v (fJ m k)->(∀b,b∉bw k->Y' b=Y b)->Q .none Y')->(Wn (n+1)).call 63 [cV k,.int m] Q X Y:=by
 intro k v Y hc nd hq;have qo:wSs (Wn n) KS.body [(93,cV k),(2,.int m)] (qN Q) Q X Y->(Wn (n+1)).call 63 [cV k,.int m] Q X Y:=λh=>en (fd:=KS) rfl h (h2:=by clear h hc hq nd;cases k<;>rfl);exact qo ?_;intro P hP;clear qo;have key:∀(k:List F1) (v:V) (Y:So),CR Y v k->(bw k).Nodup->(∀Y',CR Y' v (fJ m k)->(∀b,b∉bw k->Y' b=Y b)->Q .none Y')->P [(93,cV k),(2,.int m)] Y:=by
  intro k;induction k with
  |nil=>intro v Y _ _ hq;show hP _ _ (hq Y trivial λ_ _=>rfl)
  |cons f k ih=>
   intro v Y hc nd hq;cases f with
   |L a t p r=>
    obtain⟨h1,h2,h3⟩:=hc;have dD:(a::(r.aB++bw k)).Nodup:=nd;rw[aX,aJ,not_or] at dD;show P [(93,.ref a),(2,.int m)] Y;exact hP _ _ ?_;exact nB h1 ?_;exact Cz h1 ?_;exact gB au ?_;exact ih (.ref a) _ (h3.congr λb hb=>ao (gD dD.1.2 hb)) (bF.mp dD.2).2.1 λY' rL ho=>?_;exact hq Y' ⟨?_,?_,rL⟩ λb hb=>?_
    ·rw[ho a dD.1.2,GC];show au
    ·exact h2.congr λb hb=>?_;have:b∉bw k:=λe=>(bF.mp dD.2).2.2 b hb b e rfl;rw[ho b this,ao (gD dD.1.1 hb)]
    ·have bS:b≠a/\b∉r.aB/\b∉bw k:=by simpa [ik,il,ip,not_or] using hb
     rw[ho b bS.2.2,ao bS.1]
   |R a t p r=>
    obtain⟨h1,h2,h3⟩:=hc;have dD:(a::(r.aB++bw k)).Nodup:=nd;rw[aX,aJ,not_or] at dD;show P [(93,.ref a),(2,.int m)] Y;exact hP _ _ ?_;exact nB h1 ?_;exact Cz h1 ?_;exact gB au ?_;exact ih (.ref a) _ (h3.congr λb hb=>ao (gD dD.1.2 hb)) (bF.mp dD.2).2.1 λY' rL ho=>?_;exact hq Y' ⟨?_,?_,rL⟩ λb hb=>?_
    ·rw[ho a dD.1.2,GC];show au
    ·exact h2.congr λb hb=>?_;have:b∉bw k:=λe=>(bF.mp dD.2).2.2 b hb b e rfl;rw[ho b this,ao (gD dD.1.1 hb)]
    ·have bS:b≠a/\b∉r.aB/\b∉bw k:=by simpa [ik,il,ip,not_or] using hb
     rw[ho b bS.2.2,ao bS.1]
 show key k v Y hc nd hq
def TR.at_{q:V}(h:TR Y t q)(b)(hb:b∈t.aB):∃n p l r q',Y b=some (nO n p l r q'):=by
 induction t generalizing q with
 |nil=>show E0 hb
 |nd a l r t p gK jM=>show(aJ.mp (show b∈l.aB++a::r.aB from hb)).elim (gK h.2.1) λh'=>(az.mp h').elim (λe=>by rw[e];show⟨_,_,_,_,_,h.1⟩) (jM h.2.2)
def CR.at_{k:List F1}(h:CR Y v k)(b)(hb:b∈bw k):∃n p l r q',Y b=some (nO n p l r q'):=by
 induction k generalizing v with
 |nil=>show E0 hb
 |cons f k ih=>
  cases f with
  |L a t p r=>show(aJ.mp hb).elim (λhb=>(az.mp hb).elim (λe=>by rw[e];show⟨_,_,_,_,_,h.1⟩) (h.2.1.at_ b)) (ih h.2.2)
  |R a t p r=>show(aJ.mp hb).elim (λhb=>(az.mp hb).elim (λe=>by rw[e];show⟨_,_,_,_,_,h.1⟩) (h.2.1.at_ b)) (ih h.2.2)
theorem TR.no{q:V}(h:TR Y t q)(e:Y tr=some (lN v)):tr∉t.aB:=λhb=>by
 obtain⟨_,_,_,_,_,e'⟩:=h.at_ tr hb
 nomatch e,e'
theorem CR.no{k:List F1}{q:V}(h:CR Y q k)(e:Y tr=some (lN v)):tr∉bw k:=λhb=>by
 obtain⟨_,_,_,_,_,e'⟩:=h.at_ tr hb
 nomatch e,e'
theorem TR.Nx{y l r t p q q'}(h:TR Y (.nd y l r t p) q)(hl:y∉l.aB)(hr:y∉r.aB):TR (put Y y (nO t p l.root r.root q')) (.nd y l r t p) q':=
 ⟨au,h.2.1.congr λb hb=>ao (gD hl hb),h.2.2.congr λb hb=>ao (gD hr hb)⟩
def nJ{r:T}{t p}{k:List Nat}(h:((T.nd y l r t p).aB++k).Nodup):y∉l.aB/\y∉r.aB/\y∉k/\l.aB.Nodup/\r.aB.Nodup/\k.Nodup/\(∀b∈l.aB,b∉r.aB/\b∉k)/\(∀b∈r.aB,b∉k):=by
 have h':(l.aB++(y::(r.aB++k))).Nodup:=by simpa [T.aO,T.aN,dR] using h
 obtain⟨h1,h2,h3⟩:=bF.mp h';rw[aX,aJ,not_or] at h2;obtain⟨h4,h5,h6⟩:=bF.mp h2.2;exact⟨λm=>h3 y m y (.head _) rfl,h2.1.1,h2.1.2,h1,h4,h5,λb hb=>⟨λm=>h3 b hb b (.tail _ (cj _ m)) rfl,λm=>h3 b hb b (.tail _ (cQ _ m)) rfl⟩,λb hb m=>h6 b hb b m rfl⟩
def Ny{n Q X}{x:Nat}{k:List F1}{tx px lx rx}(hx:Y x=some (nO tx px lx rx (cV k)))(hc:CR Y (.ref x) k)(hr:Y tr=some (lN (AK (.ref x) k)))(hs:TR Y s q0)(nd:(s.aB++bw k).Nodup)(xk:x∉bw k)(xs:x∉s.aB)
  (hq:∀Y',TR Y' s (cV k)->CR Y' s.root k->Y' tr=some (lN (AK s.root k))->(∀b,b∉s.aB->b∉bw k->b≠tr->Y' b=Y b)->Q .none Y'):(Wn (n+1)).call 71 [.ref tr,.ref x,s.root] Q X Y:=by
 have qo:wSs (Wn n) KY.body [(58,.ref tr),(93,.ref x),(33,s.root)] (qN Q) Q X Y->(Wn (n+1)).call 71 [.ref tr,.ref x,s.root] Q X Y:=λh=>en (fd:=KY) rfl h (h2:=by clear h hq hs nd xs;cases s<;>rfl);exact qo ?_;clear qo;have Wt:=hs.no hr;have xd:=hc.no hr;exact gB hx ?_;have AO:∀Y1,TR Y1 s (cV k)->(∀b,b∉s.aB->Y1 b=Y b)->wS (Wn n) (.iff (.cmp .is (.v 104) .cN) [.asg (.attr (.v 58) 79) (.v 33)] [.iff (.cmp .is (.attr (.v 104) 95) (.v 93)) [.asg (.attr (.v 104) 95) (.v 33)] [.asg (.attr (.v 104) 96) (.v 33)]]) [(58,.ref tr),(93,.ref x),(33,s.root),(104,cV k)] (λm s=>wSs (Wn n) [] m (qN Q) Q X s) Q X Y1:=by
  intro Y1 h1 h2;have Ed:Y1 tr=some (lN (AK (.ref x) k)):=(h2 tr Wt).trans hr;have et:Y1 x=some (nO tx px lx rx (cV k)):=(h2 x xs).trans hx;cases k with
  |nil=>
   have fin:wSs (Wn n) [] [(58,.ref tr),(93,.ref x),(33,s.root),(104,.none)] (qN Q) Q X (put Y1 tr (lN s.root)):=
    hq _ (h1.congr λb hb=>ao (gD Wt hb)) trivial au λb hb _ bS=>(ao bS).trans (h2 b hb)
   (exact GA s.nc rfl ?_;show ani Ed fin)
  |cons f k=>
   have dis:∀b∈bw (f::k),b∉s.aB:=λb hb hs=>(bF.mp nd).2.2 b hs b hb rfl;have iH:CR Y1 (.ref x) (f::k):=hc.congr λb hb=>h2 b (dis b hb);have Nz:=(bF.mp nd).2.1;cases f with
   |L a t p r=>
    obtain⟨c1,c2,c3⟩:=iH;have dD:(a::(r.aB++bw k)).Nodup:=Nz;rw[aX,aJ,not_or] at dD;have has:a∉s.aB:=dis a (.head _);show wS (Wn n) (.iff (.cmp .is (.v 104) .cN) [.asg (.attr (.v 58) 79) (.v 33)] [.iff (.cmp .is (.attr (.v 104) 95) (.v 93)) [.asg (.attr (.v 104) 95) (.v 33)] [.asg (.attr (.v 104) 96) (.v 33)]]) [(58,.ref tr),(93,.ref x),(33,s.root),(104,.ref a)] (λm s=>wSs (Wn n) [] m (qN Q) Q X s) Q X Y1;exact iF c1 ?_;exact Cw et et (λ_=>?_) (λe=>absurd rfl e);have fin:wSs (Wn n) [] [(58,.ref tr),(93,.ref x),(33,s.root),(104,.ref a)] (qN Q) Q X (put Y1 a (nO t p s.root r.root (cV k))):=by
     exact hq _ (h1.congr λb hb=>ao λe=>has (e ▸ hb)) ⟨au,c2.congr λb hb=>ao (gD dD.1.1 hb),c3.congr λb hb=>ao (gD dD.1.2 hb)⟩ ?_ λb hb qp jN=>?_
     ·have:tr≠a:=λe=>xd (by rw[e];show .head _);rw[ao this];show Ed
     ·have:b≠a:=λe=>qp (by rw[e];show .head _);rw[ao this];show h2 b hb
    (exact GA s.nc rfl ?_;show Nr c1 fin)
   |R a t p l=>
    obtain⟨c1,c2,c3⟩:=iH;have dD:(a::(l.aB++bw k)).Nodup:=Nz;rw[aX,aJ,not_or] at dD;have has:a∉s.aB:=dis a (.head _);have fin:wSs (Wn n) [] [(58,.ref tr),(93,.ref x),(33,s.root),(104,.ref a)] (qN Q) Q X (put Y1 a (nO t p l.root s.root (cV k))):=by
     exact hq _ (h1.congr λb hb=>ao λe=>has (e ▸ hb)) ⟨au,c2.congr λb hb=>ao (gD dD.1.1 hb),c3.congr λb hb=>ao (gD dD.1.2 hb)⟩ ?_ λb hb qp jN=>?_
     ·have:tr≠a:=λe=>xd (by rw[e];show .head _);rw[ao this];show Ed
     ·have:b≠a:=λe=>qp (by rw[e];show .head _);rw[ao this];show h2 b hb
    show wS (Wn n) (.iff (.cmp .is (.v 104) .cN) [.asg (.attr (.v 58) 79) (.v 33)] [.iff (.cmp .is (.attr (.v 104) 95) (.v 93)) [.asg (.attr (.v 104) 95) (.v 33)] [.asg (.attr (.v 104) 96) (.v 33)]]) [(58,.ref tr),(93,.ref x),(33,s.root),(104,.ref a)] (λm s=>wSs (Wn n) [] m (qN Q) Q X s) Q X Y1;exact iF c1 ?_;clear dD Nz xd;cases l with
    |nil=>
     (exact GA s.nc rfl ?_;show JA c1 fin)
    |nd z lz rz tz pz=>
     exact Cw c2.1 et (λe=>?_) (λ_=>?_)
     ·exfalso;clear c1 fin hc hr Ed hx et xs;subst e;show xk (by simp[ik,il,ip,T.aO,T.aN])
     ·(exact GA s.nc rfl ?_;show JA c1 fin)
 cases s with
 |nil=>show AO Y trivial λ_ _=>rfl
 |nd y l r t p=>
  obtain⟨y1,y2,_⟩:=nJ nd;have fin:=AO _ (hs.Nx (q':=cV k) y1 y2) λb hb=>ao λe=>hb (by rw[e];simp[T.aO,T.aN])
  (exact GA (ao9 k) rfl ?_;show Nt hs.1 fin)
def JD{n Q X}{x:Nat}{t p l r q}(hx:Y x=some (nO t p l r q))(hs:TR Y s q0)(xs:x∉s.aB)(nd:s.aB.Nodup)
  (hq:∀Y',Y' x=some (nO t p s.root r q)->TR Y' s (.ref x)->(∀b,b≠x->b∉s.aB->Y' b=Y b)->Q .none Y'):(Wn (n+1)).call 69 [.ref x,s.root] Q X Y:=by
 cases s with
 |nil=>
  exact en (fd:=KX) rfl ?_;exact Nr hx ?_;show hq _ au trivial λb hb _=>ao hb
 |nd y l' r' t' p'=>
  obtain⟨y1,y2,_⟩:=nJ (k:=[]) (by simpa using nd);have yx:y≠x:=λe=>xs (by rw[<-e];simp[T.aO,T.aN]);exact en (fd:=KX) rfl ?_;exact Nr hx ?_;exact Nt (t:=t') (p:=p') (l:=l'.root) (r:=r'.root) (q:=q0) ((ao yx).trans hs.1) ?_;exact hq _ ((ao (aj yx)).trans au) ?_ λb hb bS=>?_
  ·have h1:TR (put Y x (nO t p (.ref y) r q)) (.nd y l' r' t' p') q0:=hs.congr λb hb=>ao λe=>xs (e ▸ hb);show h1.Nx y1 y2
  ·rw[ao (λe=>bS (by rw[e];simp[T.aO,T.aN])),ao hb]
def NB{n Q X}{x:Nat}{t p l r q}(hx:Y x=some (nO t p l r q))(hs:TR Y s q0)(xs:x∉s.aB)(nd:s.aB.Nodup)
  (hq:∀Y',Y' x=some (nO t p l s.root q)->TR Y' s (.ref x)->(∀b,b≠x->b∉s.aB->Y' b=Y b)->Q .none Y'):(Wn (n+1)).call 68 [.ref x,s.root] Q X Y:=by
 cases s with
 |nil=>
  exact en (fd:=KW) rfl ?_;exact JA hx ?_;show hq _ au trivial λb hb _=>ao hb
 |nd y l' r' t' p'=>
  obtain⟨y1,y2,_⟩:=nJ (k:=[]) (by simpa using nd);have yx:y≠x:=λe=>xs (by rw[<-e];simp[T.aO,T.aN]);exact en (fd:=KW) rfl ?_;exact JA hx ?_;exact Nt (t:=t') (p:=p') (l:=l'.root) (r:=r'.root) (q:=q0) ((ao yx).trans hs.1) ?_;exact hq _ ((ao (aj yx)).trans au) ?_ λb hb bS=>?_
  ·have h1:TR (put Y x (nO t p l (.ref y) q)) (.nd y l' r' t' p') q0:=hs.congr λb hb=>ao λe=>xs (e ▸ hb);show h1.Nx y1 y2
  ·rw[ao (λe=>bS (by rw[e];simp[T.aO,T.aN])),ao hb]
def aid{n Q X}{x:Nat}{A B C:T}{tx ty:Int}{px py:Nat}{k:List F1}(z:Z Y tr (.nd x (.nd y A B ty py) C tx px) k)
  (hq:∀Y',Z Y' tr (.nd y A (.nd x B C (tx-ty+B.ay) px) tx py) k->(∀b,b∉(T.nd x (.nd y A B ty py) C tx px).aB->b∉bw k->b≠tr->Y' b=Y b)->Q (.ref y) Y'):(Wn (n+2)).call 74 [.ref tr,.ref x] Q X Y:=by
 obtain⟨tt,cc,nd,rr⟩:=z;obtain⟨x1,x2,x3,n1,n2,n3,d1,d2⟩:=nJ nd;obtain⟨y1,y2,_,m1,m2,_,e1,_⟩:=nJ (k:=[]) (by simpa using n1);have hx:=tt.1;have hy:y∈(T.nd y A B ty py).aB:=by simp[T.aO,T.aN]
 have xy:x≠y:=λe=>x1 (e ▸ hy);have GD:tr≠x:=λe=>by rw[e] at rr;nomatch rr,hx
 have hA:∀b∈A.aB,b∈(T.nd y A B ty py).aB:=λb hb=>by simp[T.aO,T.aN,hb]
 have hB:∀b∈B.aB,b∈(T.nd y A B ty py).aB:=λb hb=>by simp[T.aO,T.aN,hb]
 have uY:=tt.2.1.no rr;have Wu:=tt.2.2.no rr;have xd:=CR.no cc rr;exact en (fd:=R8) rfl ?_;exact iF hx ?_;exact Ny (s:=.nd y A B ty py) hx cc rr tt.2.1 (by
  have h':((T.nd y A B ty py).aB++(x::(C.aB++bw k))).Nodup:=by simpa [T.aO,T.aN,dR] using nd
  show bF.mpr ⟨n1,n3,λa ha b hb e=>(d1 a ha).2 (e ▸ hb)⟩) x3 x1 λY1 t1 c1 r1 o1=>?_
 have et:Y1 x=some (nO tx px (.ref y) C.root (cV k)):=(o1 x x1 x3 (aj GD)).trans hx;have hC1:TR Y1 C (.ref x):=tt.2.2.congr λb hb=>o1 b (λh=>(d1 b h).1 hb) (d2 b hb) (λe=>Wu (e ▸ hb));exact nB et ?_;exact nB et ?_;exact nB t1.1 ?_;exact iG t1.1 ?_;exact qm t1.2.2 ?_;exact Cz et ?_;have t2:TR (put Y1 x (nO (tx-ty+B.ay) px (.ref y) C.root (cV k))) (.nd y A B ty py) (cV k):=t1.congr λb hb=>ao λe=>x1 (e ▸ hb);exact iG t2.1 ?_;exact JD au t2.2.2 (λh=>x1 (hB x h)) m2 λY3 f1 f2 f3=>?_;have NC:Y3 y=some (nO ty py A.root B.root (cV k)):=(f3 y (aj xy) y2).trans t2.1;have hC3:TR Y3 C (.ref x):=hC1.congr λb hb=>(f3 b (λe=>x2 (e ▸ hb)) λh=>(d1 b (hB b h)).1 hb).trans (ao λe=>x2 (e ▸ hb));have NF:TR Y3 (.nd x B C (tx-ty+B.ay) px) (cV k):=⟨f1,f2,hC3⟩;have yX:y∉(T.nd x B C (tx-ty+B.ay) px).aB:=by
  intro h;rcases aJ.mp (show y∈B.aB++x::C.aB from h) with h | h
  ·show y2 h
  ·rcases az.mp h with h | h
   ·show xy h.symm
   ·show(d1 y hy).1 h
 have nX:(T.nd x B C (tx-ty+B.ay) px).aB.Nodup:=by
  show(B.aB++x::C.aB).Nodup;exact bF.mpr ⟨m2,aX.mpr ⟨x2,n2⟩,λa ha b hb e=>?_⟩;rcases az.mp hb with h | h
  ·show x1 (hB x (by rw[<-h,<-e];show ha))
  ·show(d1 a (hB a ha)).1 (e ▸ h)
 exact NB (s:=.nd x B C (tx-ty+B.ay) px) NC NF yX nX λY4 g1 g2 g3=>?_;exact Cz g1 ?_;have CB:∀b,b≠x->b∉B.aB->b∉C.aB->b∉(T.nd x B C (tx-ty+B.ay) px).aB:=λb h1 h2 h3 h=>by
  rcases aJ.mp (show b∈B.aB++x::C.aB from h) with h | h
  ·show h2 h
  ·rcases az.mp h with h | h
   ·show h1 h
   ·show h3 h
 have far:∀b,b≠y->b≠x->b∉B.aB->b∉C.aB->put Y4 y (nO tx py A.root (.ref x) (cV k)) b=Y1 b:=λb h1 h2 h3 h4=>by
  rw[ao h1,g3 b h1 (CB b h2 h3 h4),f3 b h2 h3,ao h2]
 exact hq _ ⟨⟨au,t1.2.1.congr λb hb=>far b (λe=>y1 (e ▸ hb)) (λe=>x1 (e ▸ hA b hb)) (e1 b hb).1 λh=>(d1 b (hA b hb)).1 h,g2.congr λb hb=>ao λe=>yX (e ▸ hb)⟩,c1.congr λb hb=>far b (λe=>(d1 y hy).2 (e ▸ hb)) (λe=>x3 (e ▸ hb)) (λh=>(d1 b (hB b h)).2 hb) (λh=>d2 b h hb),?_,?_⟩ λb hb bS qp=>?_
 ·have p1:(T.nd y A (.nd x B C (tx-ty+B.ay) px) tx py).aB++bw k=(T.nd x (.nd y A B ty py) C tx px).aB++bw k:=by simp[T.aO,T.aN,dR]
  rw[p1];show nd
 ·show(far tr (λe=>uY (e ▸ hy)) GD (λh=>uY (hB tr h)) Wu).trans r1
 ·have jN:b∉A.aB/\b≠y/\b∉B.aB/\b≠x/\b∉C.aB:=by simpa [T.aO,T.aN,not_or,and_assoc] using hb
  show(far b jN.2.1 jN.2.2.2.1 jN.2.2.1 jN.2.2.2.2).trans (o1 b (by simp[T.aO,T.aN,jN]) bS qp)
def akk{n Q X}{x:Nat}{A B C:T}{tx ty:Int}{px py:Nat}{k:List F1}(z:Z Y tr (.nd x A (.nd y B C ty py) tx px) k)
  (hq:∀Y',Z Y' tr (.nd y (.nd x A B (tx-ty+B.ay) px) C tx py) k->(∀b,b∉(T.nd x A (.nd y B C ty py) tx px).aB->b∉bw k->b≠tr->Y' b=Y b)->Q (.ref y) Y'):(Wn (n+2)).call 76 [.ref tr,.ref x] Q X Y:=by
 obtain⟨tt,cc,nd,rr⟩:=z;obtain⟨x1,x2,x3,n1,n2,n3,d1,d2⟩:=nJ nd;obtain⟨y1,y2,_,m1,m2,_,e1,_⟩:=nJ (k:=[]) (by simpa using n2);have hx:=tt.1;have hy:y∈(T.nd y B C ty py).aB:=by simp[T.aO,T.aN]
 have xy:x≠y:=λe=>x2 (e ▸ hy);have GD:tr≠x:=λe=>by rw[e] at rr;nomatch rr,hx
 have hC:∀b∈C.aB,b∈(T.nd y B C ty py).aB:=λb hb=>by simp[T.aO,T.aN,hb]
 have hB:∀b∈B.aB,b∈(T.nd y B C ty py).aB:=λb hb=>by simp[T.aO,T.aN,hb]
 have uY:=tt.2.2.no rr;have Wv:=tt.2.1.no rr;have xd:=CR.no cc rr;exact en (fd:=Sb) rfl ?_;exact iG hx ?_;exact Ny (s:=.nd y B C ty py) hx cc rr tt.2.2 (bF.mpr ⟨n2,n3,λa ha b hb e=>d2 a ha (e ▸ hb)⟩) x3 x2 λY1 t1 c1 r1 o1=>?_;have et:Y1 x=some (nO tx px A.root (.ref y) (cV k)):=(o1 x x2 x3 (aj GD)).trans hx;have hA1:TR Y1 A (.ref x):=tt.2.1.congr λb hb=>o1 b (d1 b hb).1 (d1 b hb).2 (λe=>Wv (e ▸ hb));exact nB et ?_;exact nB et ?_;exact nB t1.1 ?_;exact iF t1.1 ?_;exact qm t1.2.1 ?_;exact Cz et ?_;have t2:TR (put Y1 x (nO (tx-ty+B.ay) px A.root (.ref y) (cV k))) (.nd y B C ty py) (cV k):=t1.congr λb hb=>ao λe=>x2 (e ▸ hb);exact iF t2.1 ?_;exact NB au t2.2.1 (λh=>x2 (hB x h)) m1 λY3 f1 f2 f3=>?_;have NC:Y3 y=some (nO ty py B.root C.root (cV k)):=(f3 y (aj xy) y1).trans t2.1;have hA3:TR Y3 A (.ref x):=hA1.congr λb hb=>(f3 b (λe=>x1 (e ▸ hb)) λh=>(d1 b hb).1 (hB b h)).trans (ao λe=>x1 (e ▸ hb));have NF:TR Y3 (.nd x A B (tx-ty+B.ay) px) (cV k):=⟨f1,hA3,f2⟩;have yX:y∉(T.nd x A B (tx-ty+B.ay) px).aB:=by
  intro h;rcases aJ.mp (show y∈A.aB++x::B.aB from h) with h | h
  ·show(d1 y h).1 hy
  ·rcases az.mp h with h | h
   ·show xy h.symm
   ·show y1 h
 have nX:(T.nd x A B (tx-ty+B.ay) px).aB.Nodup:=by
  show(A.aB++x::B.aB).Nodup;exact bF.mpr ⟨n1,aX.mpr ⟨λh=>x2 (hB x h),m1⟩,λa ha b hb e=>?_⟩;rcases az.mp hb with h | h
  ·show x1 (by rw[<-h,<-e];show ha)
  ·show(d1 a ha).1 (hB a (e ▸ h))
 exact JD (s:=.nd x A B (tx-ty+B.ay) px) NC NF yX nX λY4 g1 g2 g3=>?_;exact Cz g1 ?_;have CB:∀b,b≠x->b∉A.aB->b∉B.aB->b∉(T.nd x A B (tx-ty+B.ay) px).aB:=λb h1 h2 h3 h=>by
  rcases aJ.mp (show b∈A.aB++x::B.aB from h) with h | h
  ·show h2 h
  ·rcases az.mp h with h | h
   ·show h1 h
   ·show h3 h
 have far:∀b,b≠y->b≠x->b∉A.aB->b∉B.aB->put Y4 y (nO tx py (.ref x) C.root (cV k)) b=Y1 b:=λb h1 h2 h3 h4=>by
  rw[ao h1,g3 b h1 (CB b h2 h3 h4),f3 b h2 h4,ao h2]
 exact hq _ ⟨⟨au,g2.congr λb hb=>ao λe=>yX (e ▸ hb),t1.2.2.congr λb hb=>far b (λe=>y2 (e ▸ hb)) (λe=>x2 (e ▸ hC b hb)) (λh=>(d1 b h).1 (hC b hb)) λh=>(e1 b h).1 hb⟩,c1.congr λb hb=>far b (λe=>d2 y hy (e ▸ hb)) (λe=>x3 (e ▸ hb)) (λh=>(d1 b h).2 hb) (λh=>d2 b (hB b h) hb),?_,?_⟩ λb hb bS qp=>?_
 ·have p1:(T.nd y (.nd x A B (tx-ty+B.ay) px) C tx py).aB++bw k=(T.nd x A (.nd y B C ty py) tx px).aB++bw k:=by simp[T.aO,T.aN,dR]
  rw[p1];show nd
 ·show(far tr (λe=>uY (e ▸ hy)) GD Wv (λh=>uY (hB tr h))).trans r1
 ·have jN:b∉A.aB/\b≠x/\b∉B.aB/\b≠y/\b∉C.aB:=by simpa [T.aO,T.aN,not_or,and_assoc] using hb
  show(far b jN.2.2.2.1 jN.2.1 jN.1 jN.2.2.1).trans (o1 b (by simp[T.aO,T.aN,jN]) bS qp)
def NK{a xs}(h:Y a=some (.lst xs))(hb:xs.length<big)(hq:∀c,Y c=none->Q (.ref c) (put Y c (.lst xs))):bi .lst [.ref a] Q Y:=by
 show wz (Y a) _;rw[h];show⟨hb,hq⟩
def al4{a xs}(h:Y a=some (.tup xs))(hb:xs.length<big)(hq:∀c,Y c=none->Q (.ref c) (put Y c (.lst xs))):bi .lst [.ref a] Q Y:=by
 show wz (Y a) _;rw[h];show⟨hb,hq⟩
def alN{a xs}(h:Y a=some (.fL xs))(hb:xs.length<big)(hq:∀c,Y c=none->Q (.ref c) (put Y c (.lst xs))):bi .lst [.ref a] Q Y:=by
 show wz (Y a) _;rw[h];show⟨hb,hq⟩
def Pos:T->Prop
 | .nil=>True
 | .nd _ l r t _=>0<t-l.ay-r.ay/\Pos l/\Pos r
theorem Ww:Pos .nil=True:=rfl
theorem Wx{a l r t p}:Pos (.nd a l r t p)=(0<t-l.ay-r.ay/\Pos l/\Pos r):=rfl
theorem Pos.nn:∀{t:T},Pos t->0<=t.ay
 | .nil,_=>km _
 | .nd a l r t p,⟨h1,h2,h3⟩=>by
  show(⟨"0:a,0<a-b-c,0:b,0:c",h1,Pos.nn h2,Pos.nn h3⟩:0<=t)
def JF:T->Prop
 | .nd _ (.nd _ A B ty _) r t _=>0<ty-r.ay/\((A.ay-(t-ty+B.ay)).natAbs:Int)<ty-r.ay
 |_=>False
def Ef:T->Prop
 | .nd _ l (.nd _ B C ty _) t _=>0<ty-l.ay/\((C.ay-(t-ty+B.ay)).natAbs:Int)<ty-l.ay
 |_=>False
def Wy{x l y B C ty py t p}:Ef (.nd x l (.nd y B C ty py) t p)↔(0<ty-l.ay/\((C.ay-(t-ty+B.ay)).natAbs:Int)<ty-l.ay):=by cases l<;>show Iff.rfl
def Wz{x l t p}:¬ Ef (.nd x l .nil t p):=by cases l<;>show id
def ahx{n Q X}{x:Nat}{r:T}{t:Int}{p:Nat}{q:V}(h:TR Y (.nd x l r t p) q)(hp:Pos (.nd x l r t p))(h1:JF (.nd x l r t p)->Q (.bool true) Y)(h0:¬ JF (.nd x l r t p)->Q (.bool false) Y):(Wn (n+2)).call 73 [.ref x] Q X Y:=by
 have hr:=Pos.nn hp.2.2;exact en (fd:=R7) rfl ?_;exact iF h.1 ?_;cases l with
 |nil=>
  exact Wq ?_;exact iG h.1 ?_;exact qm h.2.2 ?_;conv=>whnf
  split<;>rename_i e
  ·show h0 id
  ·simp at e;exfalso;show⟨"_,0:a,a<0;0,1,1",hr,e⟩
 |nd y A B ty py=>
  exact Nu h.2.1.1 ?_;exact iG h.1 ?_;exact qm h.2.2 ?_;conv=>whnf
  split<;>rename_i e
  ·simp at e;show h0 λe'=>by have:=e'.1;show⟨"_,a-b:0,0<a-b;0,1,1",e,this⟩
  ·simp only[decide_eq_false_iff_not,r6] at e;exact iF h.2.1.1 ?_;exact qm h.2.1.2.1 ?_;exact nB h.1 ?_;exact nB h.2.1.1 ?_;exact iG h.2.1.1 ?_;exact qm h.2.1.2.2 ?_;by_cases e2:((A.ay-(t-ty+B.ay)).natAbs:Int)<ty-r.ay
   ·have:=h1 ⟨e,e2⟩;show Q (.bool (decide (((A.ay-(t-ty+B.ay)).natAbs:Int)<ty-r.ay))) Y;rw[decide_eq_true e2];show this
   ·have:=h0 λe'=>e2 e'.2;show Q (.bool (decide (((A.ay-(t-ty+B.ay)).natAbs:Int)<ty-r.ay))) Y;rw[decide_eq_false e2];show this
def aiW{n Q X}{x:Nat}{r:T}{t:Int}{p:Nat}{q:V}(h:TR Y (.nd x l r t p) q)(hp:Pos (.nd x l r t p))(h1:Ef (.nd x l r t p)->Q (.bool true) Y)(h0:¬ Ef (.nd x l r t p)->Q (.bool false) Y):(Wn (n+2)).call 75 [.ref x] Q X Y:=by
 have hl:=Pos.nn hp.2.1;exact en (fd:=R9) rfl ?_;exact iG h.1 ?_;cases r with
 |nil=>
  exact Wq ?_;exact iF h.1 ?_;exact qm h.2.1 ?_;conv=>whnf
  split<;>rename_i e
  ·show h0 Wz
  ·simp at e;exfalso;show⟨"_,0:a,a<0;0,1,1",hl,e⟩
 |nd y B C ty py=>
  rw[Wy] at h1 h0;exact Nu h.2.2.1 ?_;exact iF h.1 ?_;exact qm h.2.1 ?_;conv=>whnf
  split<;>rename_i e
  ·simp at e;show h0 λe'=>by have:=e'.1;show⟨"_,a-b:0,0<a-b;0,1,1",e,e'.1⟩
  ·simp only[decide_eq_false_iff_not,r6] at e;exact iG h.2.2.1 ?_;exact qm h.2.2.2.2 ?_;exact nB h.1 ?_;exact nB h.2.2.1 ?_;exact iF h.2.2.1 ?_;exact qm h.2.2.2.1 ?_;by_cases e2:((C.ay-(t-ty+B.ay)).natAbs:Int)<ty-l.ay
   ·have:=h1 ⟨e,e2⟩;show Q (.bool (decide (((C.ay-(t-ty+B.ay)).natAbs:Int)<ty-l.ay))) Y;rw[decide_eq_true e2];show this
   ·have:=h0 λe'=>e2 e'.2;show Q (.bool (decide (((C.ay-(t-ty+B.ay)).natAbs:Int)<ty-l.ay))) Y;rw[decide_eq_false e2];show this
theorem q9{a l r t p}:(T.nd a l r t p).ay=t:=rfl
theorem JG:T.nil.ay=0:=rfl
def T.count:T->Nat
 | .nil=>0
 | .nd _ l r _ _=>l.count+r.count+1
theorem T.cO:T.nil.count=0:=rfl
theorem T.cN{a l r t p}:(T.nd a l r t p).count=l.count+r.count+1:=rfl
def CC:T->Nat
 | .nil=>0
 | .nd _ l r _ _=>(l.ay-r.ay).natAbs
def NM:∀t:T,t.seq.length=t.count:=by
 intro zl;induction zl with
 |nil=>
  show rfl
 |nd a l r t p gK jM=>
  simp[T.sO,T.sN,T.cO,T.cN,gK,jM];show⟨"A+(B+1)~A+B+1"⟩
def Eg:∀t:T,t.seq.map (·.1)=t.aB:=by
 intro zl;induction zl with
 |nil=>
  show rfl
 |nd a l r t p gK jM=>
  simp[T.sO,T.sN,T.aO,T.aN,gK,jM]
def sQ(l:List (Nat×Int×Nat)):Int:=(l.map (·.2.1)).sum
def Eh:∀t:T,sQ t.seq=t.ay:=by
 intro zl;induction zl with
 |nil=>
  show rfl
 |nd a l r t p gK jM=>
  have h1:=gK;have h2:=jM;unfold sQ at h1 h2 ⊢;simp[T.sO,T.sN,T.ay,h1,h2];show⟨"a+(b-a)=b"⟩
theorem Ei:∀{t:T},Pos t↔∀e∈t.seq,0<e.2.1
 | .nil=>by simp[Ww,Wx,T.sO,T.sN]
 | .nd a l r t p=>by
  simp only[Ww,Wx,T.sO,T.sN,aJ,az,Ei (t:=l),Ei (t:=r)];constructor
  ·rintro⟨h1,h2,h3⟩ e (h | rfl | h)
   ·show h2 e h
   ·show h1
   ·show h3 e h
  ·intro h;show⟨h _ (.inr (.inl rfl)),λe he=>h e (.inl he),λe he=>h e (.inr (.inr he))⟩
abbrev GF(tr x0 w ta:Nat)(ex:Env):Env:=(58,.ref tr)::(93,.ref x0)::(113,.ref w)::(114,.ref ta)::ex
def Sh(tr x0 w ta:Nat)(m:Env):Prop:=∃ex,m=GF tr x0 w ta ex/\Suf [112,110] ex
def NP{x y A B C tx ty px py}:(T.nd y A (.nd x B C (tx-ty+B.ay) px) tx py).seq=(T.nd x (.nd y A B ty py) C tx px).seq:=by
 have e1:tx-A.ay-(tx-ty+B.ay)=ty-A.ay-B.ay:=⟨"a-b-(a-c+d)=c-b-d"⟩;have e2:tx-ty+B.ay-B.ay-C.ay=tx-ty-C.ay:=⟨"a-b+c-c-d=a-b-d"⟩;simp[T.sO,T.sN,q9,e1,e2]
def NQ{x y A B C tx ty px py}:(T.nd y (.nd x A B (tx-ty+B.ay) px) C tx py).seq=(T.nd x A (.nd y B C ty py) tx px).seq:=by
 have e1:tx-(tx-ty+B.ay)-C.ay=ty-B.ay-C.ay:=⟨"a-(a-b+c)-d=b-c-d"⟩;have e2:tx-ty+B.ay-A.ay-B.ay=tx-A.ay-ty:=⟨"a-b+c-d-c=a-d-b"⟩;simp[T.sO,T.sN,q9,e1,e2]
theorem Z.aoH{Y tr t k}(z:Z Y tr t k):t.aB.Nodup:=(bF.mp z.nd).1
def Z.xf{Y tr y A X t p k}(z:Z Y tr (.nd y A X t p) k):Z Y tr X (.R y t p A::k):=by
 obtain⟨tt,cc,nd,rr⟩:=z;exact⟨tt.2.2,⟨tt.1,tt.2.1,cc⟩,?_,rr⟩;have p1:((T.nd y A X t p).aB++bw k).Perm (X.aB++bw (.R y t p A::k)):=by
  show((A.aB++y::X.aB)++bw k).Perm (X.aB++(y::A.aB++bw k));rw[<-dR];exact yU _ ?_;have:(A.aB++y::X.aB).Perm (y::(A.aB++X.aB)):=oZ;exact this.trans ?_;have h2:(X.aB++(y::A.aB)).Perm (y::(X.aB++A.aB)):=oZ;show(yV _ yy).trans h2.symm
 show p1.nodup_iff.mp nd
def Z.JH{Y tr y A X t p k}(z:Z Y tr X (.R y t p A::k)):Z Y tr (.nd y A X t p) k:=by
 obtain⟨tt,⟨c1,c2,c3⟩,nd,rr⟩:=z;exact⟨⟨c1,c2,tt⟩,c3,?_,rr⟩;have p1:((T.nd y A X t p).aB++bw k).Perm (X.aB++bw (.R y t p A::k)):=by
  show((A.aB++y::X.aB)++bw k).Perm (X.aB++(y::A.aB++bw k));rw[<-dR];exact yU _ ?_;have:(A.aB++y::X.aB).Perm (y::(A.aB++X.aB)):=oZ;exact this.trans ?_;have h2:(X.aB++(y::A.aB)).Perm (y::(X.aB++A.aB)):=oZ;show(yV _ yy).trans h2.symm
 show p1.nodup_iff.mpr nd
def Z.oq{Y tr y A X t p k}(z:Z Y tr (.nd y X A t p) k):Z Y tr X (.L y t p A::k):=by
 obtain⟨tt,cc,nd,rr⟩:=z;exact⟨tt.2.1,⟨tt.1,tt.2.2,cc⟩,?_,rr⟩;have p1:(T.nd y X A t p).aB++bw k=X.aB++bw (.L y t p A::k):=by simp[T.aO,T.aN,ik,il,ip,dR]
 rw[<-p1];show nd
def Z.CD{Y tr y A X t p k}(z:Z Y tr X (.L y t p A::k)):Z Y tr (.nd y X A t p) k:=by
 obtain⟨tt,⟨c1,c2,c3⟩,nd,rr⟩:=z;exact⟨⟨c1,tt,c2⟩,c3,?_,rr⟩;have p1:(T.nd y X A t p).aB++bw k=X.aB++bw (.L y t p A::k):=by simp[T.aO,T.aN,ik,il,ip,dR]
 rw[p1];show nd
def GH(h:s'.seq=s.seq):s'.aB=s.aB:=by rw[<-Eg,h,Eg]
def NR(h:s'.seq=s.seq):s'.ay=s.ay:=by rw[<-Eh,h,Eh]
def WB(h:s'.seq=s.seq):s'.count=s.count:=by rw[<-NM,h,NM]
def JK(h:s'.seq=s.seq)(hp:Pos s):Pos s':=by rw[Ei,h];show Ei.mp hp
def Ej{x l r t p}:x∈(T.nd x l r t p).aB:=by simp[T.aO,T.aN]
def Z.wq{Y tr t k c}(z:Z Y tr t k)(h:∀cl fs,Y c≠some (.inst cl fs)):c∉t.aB/\c∉bw k/\c≠tr:=by
 exact⟨λm=>?_,λm=>?_,λe=>?_⟩
 ·obtain⟨_,_,_,_,_,e⟩:=z.tt.at_ c m;show h _ _ e
 ·obtain⟨_,_,_,_,_,e⟩:=CR.at_ z.cc c m;show h _ _ e
 ·rw[e] at h;show h _ _ z.rr
def Z.put{Y tr t k c}(z:Z Y tr t k)(h:∀cl fs,Y c≠some (.inst cl fs)):Z (Tactic.put Y c o) tr t k:=by
 obtain⟨h1,h2,h3⟩:=z.wq h;show⟨z.tt.congr λb hb=>ao (gD h1 hb),z.cc.congr λb hb=>ao (gD h2 hb),z.nd,(ao (aj h3)).trans z.rr⟩
theorem aoJ{a x:Int}{D:Nat}(h1:0<a)(h2:(x.natAbs:Int)<a)(h:a.natAbs<=D):x.natAbs<D:=⟨"A>B,'A<a,'C=a,C.B;1,1,-1,1",h2,lT (cH h1),h⟩
def aow{a c d:Int}{D:Nat}(h1:0<b-a)(h2:((d-c).natAbs:Int)<b-a)(h:(a-b).natAbs<=D):(c-d).natAbs<D:=by
 rw[show(c-d).natAbs=(d-c).natAbs by rw[<-rZ,Int.neg_sub]];show⟨"A>B,'A<b-a,'C=b-a,C.B;1,1,-1,1",h2,show((a-b).natAbs:Int)=b-a by rw[<-rZ,Int.neg_sub];show lT (cH h1),h⟩
abbrev WC:E:=.cmp .gt (.bi .len [.v 113]) (.cI 0)
abbrev GJ:List Sm:=[.asg (.v 114) (.jG (.cmp .is (.v 112) (.v 114)) (.v 110) (.v 114)),.ex (.lm .extend (.v 113) [.list [.v 110,.v 112]])]
abbrev ap4:List Sm:=[.asg (.v 112) (.lm .pop (.v 113) []),.iff (.call 73 [.v 112]) (.asg (.v 110) (.call 74 [.v 58,.v 112])::GJ) [.iff (.call 75 [.v 112]) (.asg (.v 110) (.call 76 [.v 58,.v 112])::GJ) []]]
def ahk{n Q X}{P:Env->So->Prop}{w ta x:Nat}{rest:List V}(hx:∃c fs,Y x=some (.inst c fs))(ht:∃c fs,Y ta=some (.inst c fs))(hw:Y w=some (.lst rest))(hl:rest.length+2<100000)
  (fin:∀c m',Y c=none->c≠w->Sh tr x0 w (if ta=x then y else ta) m'->P m' (put (put Y c (.lst [.ref y,.ref x])) w (.lst (rest++[.ref y,.ref x])))) :
  wSs (Wn n) GJ [(58,.ref tr),(93,.ref x0),(113,.ref w),(114,.ref ta),(112,.ref x),(110,.ref y)] P Q X Y:=by
 obtain⟨c1,f1,hx⟩:=hx;obtain⟨c2,f2,ht⟩:=ht;have go:∀xg,xg=(if ta=x then y else ta)->wSs (Wn n) [.ex (.lm .extend (.v 113) [.list [.v 110,.v 112]])] [(58,.ref tr),(93,.ref x0),(113,.ref w),(114,.ref xg),(112,.ref x),(110,.ref y)] P Q X Y:=by
  intro xg e
  exists hw
  intro c hc;have cw:c≠w:=λe=>by nomatch e,hw,hc
  conv=>whnf
  rw[(ao (aj cw)).trans hw,au];show⟨aj cw,hl,fin c _ hc cw ⟨[(112,_),(110,_)],by rw[e],⟨[_,_],rfl⟩⟩⟩
 show Cw hx ht (λe=>go y (by rw[if_pos e.symm])) (λe=>go ta (by rw[if_neg (aj e)]))
def agT{n Q}{P:Env->So->Prop}{K:Bool->So->Prop}{w ta x:Nat}{rest:List V}{r:T}{t:Int}{p:Nat}{k:List F1}(CF:Sh tr x0 w ta m)(hw:Y w=some (.lst (rest++[.ref x])))(z1:Z (put Y w (.lst rest)) tr (.nd x l r t p) k)(bK:Pos (.nd x l r t p))
  (hR:∀y A B ty py,l=.nd y A B ty py->JF (.nd x l r t p)->∀m',m'=[(58,.ref tr),(93,.ref x0),(113,.ref w),(114,.ref ta),(112,.ref x),(110,.ref y)]->∀Y',Z Y' tr (.nd y A (.nd x B r (t-ty+B.ay) p) t py) k->(∀b,b∉(T.nd x l r t p).aB->b∉bw k->b≠tr->Y' b=put Y w (.lst rest) b)->wSs (Wn (n+2)) GJ m' P Q bW Y')
  (hL:∀y B C ty py,r=.nd y B C ty py->Ef (.nd x l r t p)->∀m',m'=[(58,.ref tr),(93,.ref x0),(113,.ref w),(114,.ref ta),(112,.ref x),(110,.ref y)]->∀Y',Z Y' tr (.nd y (.nd x l B (t-ty+B.ay) p) C t py) k->(∀b,b∉(T.nd x l r t p).aB->b∉bw k->b≠tr->Y' b=put Y w (.lst rest) b)->wSs (Wn (n+2)) GJ m' P Q bW Y')
  (CG:∀m',Sh tr x0 w ta m'->P m' (put Y w (.lst rest)))
  (hK:∀s,wSs (Wn (n+2)) ap4 m P Q bW s->K true s):wB (Wn (n+2)) WC m (wE (Wn (n+2)) WC m) K bW Y:=by
 have e:decide ((0:Int)<((rest++[V.ref x]).length:Int))=true:=decide_eq_true (by simp);obtain⟨ex,rfl,hx⟩:=CF;obtain⟨e1,h1,u1⟩:=hx.up
 exists hw
 exact(congrArg (λb=>K b Y) e).mpr (hK _ ?_)
 exists hw
 exists hw
 exact⟨rest,.ref x,rfl,?_⟩;show wSs (Wn (n+2)) _ (GF tr x0 w ta (Tactic.up ex 112 (.ref x))) P Q bW _;rw[u1];exact ahx z1.tt bK (λhh=>?_) (λhh=>?_)
 ·clear hL bK;cases l with
  |nil=>show hh.elim
  |nd y A B ty py=>exact aid z1 λY2 z2 f2=>hR y A B ty py rfl hh (GF tr x0 w ta ((112,.ref x)::Tactic.up e1 110 (.ref y))) (by rw[h1.up1]) Y2 z2 f2
 ·exact aiW z1.tt bK (λNS=>?_) (λNS=>?_)
  ·clear hR hh bK;cases r with
   |nil=>show(Wz NS).elim
   |nd y B C ty py=>exact akk z1 λY2 z2 f2=>hL y B C ty py rfl NS (GF tr x0 w ta ((112,.ref x)::Tactic.up e1 110 (.ref y))) (by rw[h1.up1]) Y2 z2 f2
  ·show CG (GF tr x0 w ta ((112,.ref x)::e1)) ⟨_,rfl,h1.cons⟩
def settle{n Q X}{l0 r0:T}{t0:Int}{p0:Nat}{k0:List F1}(z:Z Y tr (.nd x0 l0 r0 t0 p0) k0)(hp:Pos (.nd x0 l0 r0 t0 p0))(CJ:(T.nd x0 l0 r0 t0 p0).count<=1000)
  (hq:∀Y' s',Z Y' tr s' k0->s'.seq=(T.nd x0 l0 r0 t0 p0).seq->(∀b o,Y b=some o->b∉(T.nd x0 l0 r0 t0 p0).aB->b∉bw k0->b≠tr->Y' b=some o)->Q s'.root Y'):(Wn (n+3)).call 72 [.ref tr,.ref x0] Q X Y:=by
 exact en (fd:=R6) rfl ?_;intro w hw P hP;have key:∀(N D:Nat) (x:Nat) (l r:T) (t:Int) (p:Nat) (k:List F1) (Y:So) (rest:List V) (ta:Nat) (m:Env),(T.nd x l r t p).count<=N->CC (.nd x l r t p)<=D->Pos (.nd x l r t p)->Z Y tr (.nd x l r t p) k->Y w=some (.lst (rest++[.ref x]))->rest.length+N<=5000->(ta=x\/ta∈bw k)->Sh tr x0 w ta m ->
   (∀s' Y' m' xg,Z Y' tr s' k->s'.seq=(T.nd x l r t p).seq->Y' w=some (.lst rest)->(ta=x->.ref xg=s'.root)->(ta≠x->xg=ta)->Sh tr x0 w xg m'->(∀b o,Y b=some o->b∉(T.nd x l r t p).aB->b∉bw k->b≠tr->b≠w->Y' b=some o)->P m' Y')->P m Y:=by
  intro N;induction N with
  |zero=>intro D x l r t p k Y rest ta m hN;simp[T.cO,T.cN] at hN
  |succ N WD=>
   intro D;induction D using y9 with
   |ind D WG=>
    intro x l r t p k Y rest ta m hN hD bK z hw hlen ot CF cont;obtain⟨tt,cc,nd,rr⟩:=id z;have hx:=tt.1;obtain⟨x1,x2,x3,n1,n2,n3,d1,d2⟩:=nJ nd;have wx:w≠x:=λe=>by nomatch e,hx,hw
    have WH:w≠tr:=λe=>by nomatch e,rr,hw
    have wt:w∉(T.nd x l r t p).aB:=λh=>by
     obtain⟨_,_,_,_,_,e⟩:=tt.at_ w h
     nomatch e,hw
    have wk:w∉bw k:=λh=>by
     obtain⟨_,_,_,_,_,e⟩:=CR.at_ cc w h
     nomatch e,hw
    have NT:∃c fs,Y ta=some (.inst c fs):=by
     rcases ot with e | h
     ·show⟨_,_,(congrArg Y e).trans hx⟩
     ·obtain⟨_,_,_,_,_,e⟩:=CR.at_ cc ta h;show⟨_,_,e⟩
    have z1:Z (put Y w (.lst rest)) tr (.nd x l r t p) k:=⟨tt.congr λb hb=>ao (gD wt hb),CR.congr cc λb hb=>ao (gD wk hb),nd,(ao (aj WH)).trans rr⟩;have far1:∀b,b≠w->put Y w (.lst rest) b=Y b:=λb hb=>ao hb;have CG:∀m',Sh tr x0 w ta m'->P m' (put Y w (.lst rest)):=λm' jJ=>
     cont _ _ m' ta z1 rfl au (λe=>by rw[e];rfl) (λ_=>rfl) jJ λb o hb _ _ _ hbw=>(ao hbw).trans hb
    have AP:∀y A B ty py,l=.nd y A B ty py->JF (.nd x l r t p)->∀Y2,Z Y2 tr (.nd y A (.nd x B r (t-ty+B.ay) p) t py) k->Y2 w=some (.lst (rest++[.ref y,.ref x]))->(∀b o,Y b=some o->b∉(T.nd x l r t p).aB->b∉bw k->b≠tr->b≠w->Y2 b=some o)->∀m',Sh tr x0 w (if ta=x then y else ta) m'->P m' Y2:=by
     intro y A B ty py hl hh Y2 z2 Ek f2 m' jJ;clear cc hx nd rr tt wt z z1;subst hl;have uZ:Pos (.nd y A (.nd x B r (t-ty+B.ay) p) t py):=JK NP bK;have u0:Pos (.nd x B r (t-ty+B.ay) p):=uZ.2.2;have cnt:(T.nd x (.nd y A B ty py) r t p).count=A.count+B.count+1+r.count+1:=rfl;have cX:(T.nd x B r (t-ty+B.ay) p).count=B.count+r.count+1:=rfl;have yx:y≠x:=λe=>x1 (by rw[<-e];show Ej);exact WD (CC (.nd x B r (t-ty+B.ay) p)) x B r _ p (.R y t py A::k) Y2 (rest++[.ref y]) (if ta=x then y else ta) m' (by rw[cX];rw[cnt] at hN;show⟨"A+B+1.C,D+A+1+B+1.C+1",hN⟩) (cy _) u0 z2.xf (by rw[Ek];simp) (by simp;show⟨"A+1+B.5000,A+(B+1).5000",hlen⟩) ?_ jJ ?_
     ·right;split
      ·simp[ik,il,ip,F1.aL,F1.aR]
      ·rename_i aU;rcases ot with h | h
       ·show absurd h aU
       ·simp[ik,il,ip,h]
     ·intro X' Y3 m3 ta3 z3 El NV _ CK CL f3;have NW:(if ta=x then y else ta)≠x:=by
       split
       ·show yx
       ·assumption
      have CM:=CK NW;subst CM;have tX:X'.ay=t-ty+B.ay:=(NR El).trans rfl;have NX:Z Y3 tr (.nd y A X' t py) k:=z3.JH;have lH:(T.nd y A X' t py).seq=(T.nd x (.nd y A B ty py) r t p).seq:=by
       rw[<-NP];simp only[T.sO,T.sN,El,tX,q9]
      have u5:Pos (.nd y A X' t py):=JK lH bK;have GK:0<ty-r.ay/\((A.ay-(t-ty+B.ay)).natAbs:Int)<ty-r.ay:=hh;have im:CC (.nd y A X' t py)<D:=aoJ GK.1 (by rw[tX];show GK.2) hD;have hX:X'.aB=(T.nd x B r (t-ty+B.ay) p).aB:=GH El;exact WG (CC (.nd y A X' t py)) im y A X' t py k Y3 rest (if ta=x then y else ta) m3 (by rw[WB lH];show hN) (cy _) u5 NX NV hlen ?_ CL ?_
      ·split
       ·show .inl rfl
       ·rename_i aU;show .inr (ot.resolve_left aU)
      ·intro s4 Y4 m4 NZ z4 N0 N1 N2 N4 CN f4;exact cont s4 Y4 m4 NZ z4 (N0.trans lH) N1 (λe=>N2 (by rw[if_pos e])) (λe=>?_) CN λb o hb h1 h2 h3 h4=>?_
       ·have:=N4 (by
         rw[if_neg e];intro e2;rcases ot with h | h
         ·show e h
         ·show(d1 y (by show Ej)).2 (e2 ▸ h))
        rw[this,if_neg e]
       ·have qp:=f2 b o hb h1 h2 h3 h4;have CP:b∉(T.nd y A (.nd x B r (t-ty+B.ay) p) t py).aB:=by rw[GH NP];show h1
        have jN:=f3 b o qp (λh=>CP (by
         show b∈A.aB++y::(T.nd x B r (t-ty+B.ay) p).aB;show cQ _ (.tail _ h))) (by
          intro h;rcases aJ.mp (show b∈(y::A.aB)++bw k from h) with h | h
          ·rcases az.mp h with h | h
           ·show CP (by rw[h];show Ej)
           ·show CP (cj _ h)
          ·show h2 h) h3 h4
        show f4 b o jN (by rw[GH lH];show h1) h2 h3 h4
    have GL:∀y B C ty py,r=.nd y B C ty py->Ef (.nd x l r t p)->∀Y2,Z Y2 tr (.nd y (.nd x l B (t-ty+B.ay) p) C t py) k->Y2 w=some (.lst (rest++[.ref y,.ref x]))->(∀b o,Y b=some o->b∉(T.nd x l r t p).aB->b∉bw k->b≠tr->b≠w->Y2 b=some o)->∀m',Sh tr x0 w (if ta=x then y else ta) m'->P m' Y2:=by
     intro y B C ty py hl hh Y2 z2 Ek f2 m' jJ;clear cc d1 hx nd rr tt AP wt z z1;subst hl;have uZ:Pos (.nd y (.nd x l B (t-ty+B.ay) p) C t py):=JK NQ bK;have u0:Pos (.nd x l B (t-ty+B.ay) p):=uZ.2.1;have cnt:(T.nd x l (.nd y B C ty py) t p).count=l.count+(B.count+C.count+1)+1:=rfl;have cX:(T.nd x l B (t-ty+B.ay) p).count=l.count+B.count+1:=rfl;have yx:y≠x:=λe=>x2 (by rw[<-e];show Ej);exact WD (CC (.nd x l B (t-ty+B.ay) p)) x l B _ p (.L y t py C::k) Y2 (rest++[.ref y]) (if ta=x then y else ta) m' (by rw[cX];rw[cnt] at hN;show⟨"A+B+1.C,A+(B+D+1)+1.C+1",hN⟩) (cy _) u0 z2.oq (by rw[Ek];simp) (by simp;show⟨"A+1+B.5000,A+(B+1).5000",hlen⟩) ?_ jJ ?_
     ·right;split
      ·simp[ik,il,ip,F1.aL,F1.aR]
      ·rename_i aU;rcases ot with h | h
       ·show absurd h aU
       ·simp[ik,il,ip,h]
     ·intro X' Y3 m3 ta3 z3 El NV _ CK CL f3;have NW:(if ta=x then y else ta)≠x:=by
       split
       ·show yx
       ·assumption
      have CM:=CK NW;subst CM;have tX:X'.ay=t-ty+B.ay:=(NR El).trans rfl;have NX:Z Y3 tr (.nd y X' C t py) k:=z3.CD;have lH:(T.nd y X' C t py).seq=(T.nd x l (.nd y B C ty py) t p).seq:=by
       rw[<-NQ];simp only[T.sO,T.sN,El,tX,q9]
      have u5:Pos (.nd y X' C t py):=JK lH bK;have GK:0<ty-l.ay/\((C.ay-(t-ty+B.ay)).natAbs:Int)<ty-l.ay:=Wy.mp hh;have im:CC (.nd y X' C t py)<D:=aow GK.1 (by rw[tX];show GK.2) hD;exact WG (CC (.nd y X' C t py)) im y X' C t py k Y3 rest (if ta=x then y else ta) m3 (by rw[WB lH];show hN) (cy _) u5 NX NV hlen ?_ CL ?_
      ·split
       ·show .inl rfl
       ·rename_i aU;show .inr (ot.resolve_left aU)
      ·intro s4 Y4 m4 NZ z4 N0 N1 N2 N4 CN f4;exact cont s4 Y4 m4 NZ z4 (N0.trans lH) N1 (λe=>N2 (by rw[if_pos e])) (λe=>?_) CN λb o hb h1 h2 h3 h4=>?_
       ·have:=N4 (by
         rw[if_neg e];intro e2;rcases ot with h | h
         ·show e h
         ·show d2 y Ej (e2 ▸ h))
        rw[this,if_neg e]
       ·have qp:=f2 b o hb h1 h2 h3 h4;have CP:b∉(T.nd y (.nd x l B (t-ty+B.ay) p) C t py).aB:=by rw[GH NQ];show h1
        have jN:=f3 b o qp (λh=>CP (by
         show b∈(T.nd x l B (t-ty+B.ay) p).aB++y::C.aB;show cj _ h)) (by
          intro h;rcases aJ.mp (show b∈(y::C.aB)++bw k from h) with h | h
          ·rcases az.mp h with h | h
           ·show CP (by rw[h];show Ej)
           ·show CP (cQ _ (.tail _ h))
          ·show h2 h) h3 h4
        show f4 b o jN (by rw[GH lH];show h1) h2 h3 h4
    exact hP _ _ ?_;exact agT CF hw z1 bK (λy A B ty py hl hh m' jJ Y2 z2 f2=>?_) (λy B C ty py hl hh m' jJ Y2 z2 f2=>?_) CG λs h=>h
    all_goals
     subst hl jJ;have Ek:Y2 w=some (.lst rest):=(f2 w wt wk WH).trans au;have N5:∃c fs,Y2 ta=some (.inst c fs):=by
      rcases ot with e | h
      ·first
       |show⟨_,_,(congrArg Y2 e).trans z2.tt.2.2.1⟩
       |show⟨_,_,(congrArg Y2 e).trans z2.tt.2.1.1⟩
      ·obtain⟨_,_,_,_,_,e⟩:=CR.at_ z2.cc ta h;show⟨_,_,e⟩
     exact ahk (by first | show⟨_,_,z2.tt.2.2.1⟩ | show⟨_,_,z2.tt.2.1.1⟩) N5 Ek ⟨"A+2>100000,A+(B+1).5000",hlen⟩ λc m' hc cw jJ=>?_
     have Z2:Z (put (put Y2 c (.lst [.ref y,.ref x])) w (.lst (rest++[.ref y,.ref x]))) tr _ k:=(z2.put λ_ _=>by rw[hc];intro h;cases h).put λ_ _=>by rw[ao (aj cw),Ek];intro h;cases h
     have F2:∀b o,Y b=some o->b∉(T.nd x _ _ t p).aB->b∉bw k->b≠tr->b≠w->put (put Y2 c (.lst [.ref y,.ref x])) w (.lst (rest++[.ref y,.ref x])) b=some o:=λb o hb h1 h2 h3 h4=>by
      have hbc:b≠c:=λe=>by
       have:=f2 b h1 h2 h3;rw[e,hc,<-e,ao h4,hb] at this;cases this
      rw[ao h4,ao hbc,f2 b h1 h2 h3,ao h4];show hb
    ·show AP y A B ty py rfl hh _ Z2 au F2 _ jJ
    ·show GL y B C ty py rfl hh _ Z2 au F2 _ jJ
 have WK:∀cl fs,Y w≠some (.inst cl fs):=λcl fs e=>by nomatch hw,e
 obtain⟨w1,w2,w3⟩:=z.wq WK;exact key _ _ x0 l0 r0 t0 p0 k0 (put Y w (.lst [.ref x0])) [] x0 _ (cy _) (cy _) hp (z.put WK) au (by simp;show⟨"A.5000,A.1000",CJ⟩) (.inl rfl) ⟨[],rfl,.none _⟩ λs' Y' m' xg z' xh cG h1 _ CF f'=>?_;have GO:=h1 rfl;have fin:Q (.ref xg) Y':=by
  rw[GO];show hq Y' s' z' xh λb o hb a1 a2 a3=>f' b o ((ao (λe=>by nomatch e,hw,hb)).trans hb) a1 a2 a3 λe=>by nomatch e,hw,hb
 obtain⟨ex,rfl,hx⟩:=CF;exact hP _ _ ?_
 exists cG
 show fin
abbrev Nd:=Nat×Int×Nat
def iI:Int->List F1->List Nd
 |_,[]=>[]
 |_,.L a t p r::k=>iI t k
 |c,.R a t p l::k=>iI t k++l.seq++[(a,t-l.ay-c,p)]
def j0:Int->List F1->List Nd
 |_,[]=>[]
 |c,.L a t p r::k=>(a,t-c-r.ay,p)::r.seq++j0 t k
 |_,.R a t p l::k=>j0 t k
theorem AQ{c}:iI c []=[]:=rfl
theorem AR{c a t p r k}:iI c (.L a t p r::k)=iI t k:=rfl
theorem AU{c a t p l k}:iI c (.R a t p l::k)=iI t k++l.seq++[(a,t-l.ay-c,p)]:=rfl
theorem AV{c}:j0 c []=[]:=rfl
theorem AW{c a t p r k}:j0 c (.L a t p r::k)=(a,t-c-r.ay,p)::r.seq++j0 t k:=rfl
theorem AX{c a t p l k}:j0 c (.R a t p l::k)=j0 t k:=rfl
def cP(t:T)(k:List F1):List Nd:=iI t.ay k++t.seq++j0 t.ay k
def CQ:∀(k:List F1) (t:T),(gC t k).seq=cP t k:=by
 intro zl;induction zl with
 |nil=>
  intro t;simp[cP,AQ,AR,AU,AV,AW,AX,Wm]
 |cons zx k ih=>
  cases zx with
  |L a n p r=>
   intro t;rw[show gC t (.L a n p r::k)=gC (.nd a t r n p) k from rfl,ih];simp[cP,AQ,AR,AU,AV,AW,AX,T.sO,T.sN,q9]
  |R a n p l=>
   intro t;rw[show gC t (.R a n p l::k)=gC (.nd a l t n p) k from rfl,ih];simp[cP,AQ,AR,AU,AV,AW,AX,T.sO,T.sN,q9]
def N6{a n p r k t}:cP t (.L a n p r::k)=cP (.nd a t r n p) k:=by simp[cP,AQ,AR,AU,AV,AW,AX,T.sO,T.sN,q9]
def N7{a n p l k t}:cP t (.R a n p l::k)=cP (.nd a l t n p) k:=by simp[cP,AQ,AR,AU,AV,AW,AX,T.sO,T.sN,q9]
def JL(m:Int):∀(k:List F1) (c:Int),iI (c+m) (fJ m k)=iI c k:=by
 intro zl;induction zl with
 |nil=>
  intro _;show rfl
 |cons zx k ih=>
  cases zx with
  |L a t p r=>
   intro c;show ih t
  |R a t p l=>
   intro c;show iI (t+m) (fJ m k)++l.seq++[(a,t+m-l.ay-(c+m),p)]=iI t k++l.seq++[(a,t-l.ay-c,p)];rw[ih t];have:t+m-l.ay-(c+m)=t-l.ay-c:=⟨"a+b-c-(d+b)=a-c-d"⟩;rw[this]
def JM(m:Int):∀(k:List F1) (c:Int),j0 (c+m) (fJ m k)=j0 c k:=by
 intro zl;induction zl with
 |nil=>
  intro _;show rfl
 |cons zx k ih=>
  cases zx with
  |R a t p r=>
   intro c;show ih t
  |L a t p r=>
   intro c;show(a,t+m-(c+m)-r.ay,p)::r.seq++j0 (t+m) (fJ m k)=(a,t-c-r.ay,p)::r.seq++j0 t k;rw[ih t];have:t+m-(c+m)-r.ay=t-c-r.ay:=⟨"a+b-(c+b)-d=a-c-d"⟩;rw[this]
def amL{Y tr}:∀(k:List F1) (t:T),Z Y tr t k->Z Y tr (gC t k) []:=by
 intro zl;induction zl with
 |nil=>
  intro t z;show z
 |cons zx k ih=>
  cases zx with
  |L a n p r=>
   intro t z;show ih (.nd a t r n p) z.CD
  |R a n p l=>
   intro t z;show ih (.nd a l t n p) z.JH
def anL{Y tr}:∀(k:List F1) (t:T),Z Y tr (gC t k) []->Z Y tr t k:=by
 intro zl;induction zl with
 |nil=>
  intro t z;show z
 |cons zx k ih=>
  cases zx with
  |L a n p r=>
   intro t z;show(ih (.nd a t r n p) z).oq
  |R a n p l=>
   intro t z;show(ih (.nd a l t n p) z).xf
theorem Z.N8{Y tr k t}(z:Z Y tr t k):Z Y tr (gC t k) []:=amL k t z
theorem Z.WL{Y tr k t}(z:Z Y tr (gC t k) []):Z Y tr t k:=anL k t z
def Em:∀(k:List F1) (t:T),∀b,b∈(gC t k).aB↔b∈t.aB\/b∈bw k:=by
 intro zl;induction zl with
 |nil=>
  intro t b;simp[Wm,ik,il,ip]
 |cons zx k ih=>
  cases zx with
  |L a n p r=>
   intro t b;rw[show gC t (.L a n p r::k)=gC (.nd a t r n p) k from rfl,ih];simp[T.aO,T.aN,ik,il,ip,or_assoc]
  |R a n p l=>
   intro t b;rw[show gC t (.R a n p l::k)=gC (.nd a l t n p) k from rfl,ih];simp[T.aO,T.aN,ik,il,ip];constructor
   ·rintro((h | h | h) | h)<;>simp[h]
   ·rintro(h | h | h | h)<;>simp[h]
inductive Tree(Y:So)(tr:Nat)(sq:List Nd):Prop
 |mk (t:T) (h0:Z Y tr t []) (h1:t.seq=sq) (h2:∀e∈sq,0<e.2.1):Tree Y tr sq
theorem Tree.GQ{Y tr t k}(z:Z Y tr t k)(h:∀e∈cP t k,0<e.2.1):Tree Y tr (cP t k):=⟨gC t k,z.N8,CQ k t,h⟩
def jx(sq:List Nd):List Nat:=sq.map (·.1)
def WM{k:List F1}{b:Nat}:b∈jx (cP t k)↔b∈t.aB\/b∈bw k:=by
 unfold jx;rw[<-CQ,Eg,Em]
theorem N9:∀(t:T) (a:Nat),a∈t.aB->∃l r n p k,t=gC (.nd a l r n p) k
 | .nd b l r n p,a,h=>by
  rcases aJ.mp (show a∈l.aB++b::r.aB from h) with h | h
  ·obtain⟨l',r',n',p',k,e⟩:=N9 l a h;exact⟨l',r',n',p',k++[.L b n p r],?_⟩;have:∀(k:List F1) (t:T),gC t (k++[.L b n p r])=.nd b (gC t k) r n p:=by
    intro k;induction k with
    |nil=>intro t;rfl
    |cons f k ih=>intro t;cases f<;>show ih _
   rw[this,<-e]
  ·rcases az.mp h with rfl | h
   ·show⟨l,r,n,p,[],rfl⟩
   ·obtain⟨l',r',n',p',k,e⟩:=N9 r a h;exact⟨l',r',n',p',k++[.R b n p l],?_⟩;have:∀(k:List F1) (t:T),gC t (k++[.R b n p l])=.nd b l (gC t k) n p:=by
     intro k;induction k with
     |nil=>intro t;rfl
     |cons f k ih=>intro t;cases f<;>show ih _
    rw[this,<-e]
def aho{A A' B B':List Nd}{x x':Nd}(h:A++x::B=A'++x'::B')(nd:(jx (A++x::B)).Nodup)(e:x.1=x'.1):A=A'/\x=x'/\B=B':=by
 induction A generalizing A' with
 |nil=>
  cases A' with
  |nil=>injection h with h1 h2;show⟨rfl,h1,h2⟩
  |cons y A'=>
   exfalso;have h':x::B=y::(A'++x'::B'):=h;injection h' with h1 h2;have dD:(x.1::jx B).Nodup:=nd;rw[aX] at dD;exact dD.1 ?_;rw[h2];simp[jx,e]
 |cons y A ih=>
  cases A' with
  |nil=>
   exfalso;have h':y::(A++x::B)=x'::B':=h;injection h' with h1 h2;have dD:(y.1::jx (A++x::B)).Nodup:=nd;rw[aX] at dD;exact dD.1 ?_;rw[h1,<-e];simp[jx]
  |cons z A'=>
   have h':y::(A++x::B)=z::(A'++x'::B'):=h;injection h' with h1 h2;have dD:(y.1::jx (A++x::B)).Nodup:=nd;rw[aX] at dD;obtain⟨a,b,c⟩:=ih h2 dD.2;show⟨by rw[h1,a],b,c⟩
def Tree.nodup{Y tr sq}(h:Tree Y tr sq):(jx sq).Nodup:=by
 obtain⟨t,z,rfl,_⟩:=h;unfold jx;rw[Eg];show z.aoH
def Tree.at_{Y tr A B}{x n p}(h:Tree Y tr (A++(x,n,p)::B)):∃l r t k,Z Y tr (.nd x l r t p) k/\n=t-l.ay-r.ay/\A=iI t k++l.seq/\B=r.seq++j0 t k:=by
 have nd:=h.nodup;obtain⟨t,z,e,_⟩:=h;have hx:x∈t.aB:=by rw[<-Eg,e];simp
 obtain⟨l,r,n',p',k,rfl⟩:=N9 t x hx;have e':(iI n' k++l.seq)++(x,n'-l.ay-r.ay,p')::(r.seq++j0 n' k)=A++(x,n,p)::B:=by
  rw[<-e,CQ];simp[cP,T.sO,T.sN,q9]
 obtain⟨h1,h2,h3⟩:=aho e'.symm nd rfl;injection h2 with h2a Oa;injection Oa with Oa h2c;clear e e' hx;subst h2c;show⟨l,r,n',k,z.WL,Oa,h1,h3⟩
def En{x l r t p k}:cP (.nd x l r t p) k=(iI t k++l.seq)++(x,t-l.ay-r.ay,p)::(r.seq++j0 t k):=by simp[cP,T.sO,T.sN,q9]
def Tree.pos{Y tr sq}(h:Tree Y tr sq):∀e∈sq,0<e.2.1:=by obtain⟨_,_,_,h⟩:=h;show h
theorem Z.fr{Y Y' tr t k}(z:Z Y tr t k)(f:∀b∈t.aB,Y' b=Y b)(g:∀b∈bw k,Y' b=Y b)(h:Y' tr=Y tr):Z Y' tr t k:=⟨z.tt.congr f,z.cc.congr g,z.nd,h.trans z.rr⟩
def Tree.fr{Y Y' tr sq}(h:Tree Y tr sq)(f:∀b∈jx sq,Y' b=Y b)(g:Y' tr=Y tr):Tree Y' tr sq:=by
 obtain⟨t,z,rfl,hp⟩:=h;show⟨t,z.fr (λb hb=>f b (by unfold jx;rw[Eg];show hb)) (λb hb=>by cases hb) g,rfl,hp⟩
def Tree.put{Y tr sq c}(h:Tree Y tr sq)(hc:∀cl fs,Y c≠some (.inst cl fs)):Tree (Tactic.put Y c o) tr sq:=by
 obtain⟨t,z,e,hp⟩:=h;show⟨t,z.put hc,e,hp⟩
def Tree.node{Y tr A B x n p}(h:Tree Y tr (A++(x,n,p)::B)):∃t l r q,Y x=some (nO t p l r q):=by
 obtain⟨l,r,t,k,z,_⟩:=h.at_;show⟨_,_,_,_,z.tt.1⟩
def xi{sq:List Nd}{b:Nat}(h:b∈jx sq):∃A B n p,sq=A++(b,n,p)::B:=by
 obtain⟨e,he,rfl⟩:=aQ.mp h;obtain⟨A,B,rfl⟩:=sj he;show⟨A,B,e.2.1,e.2.2,rfl⟩
def GR{k Q X Y tr A B x n p}(h:Tree Y tr (A++(x,n,p)::B))(hq:Q (.int n) Y):(Wn (k+2)).call 48 [.ref x] Q X Y:=by
 obtain⟨l,r,t,c,z,rfl,_,_⟩:=h.at_;show Nv z.tt hq
def ou:List Nd->V
 | []=>.none
 |e::_=>.ref e.1
def rg(l:List Nd):V:=ou l.reverse
def gF:T->List F1->List F1
 | .nil,k=>k
 | .nd a l r t p,k=>gF l (.L a t p r::k)
def CT:T->List F1->List F1
 | .nil,k=>k
 | .nd a l r t p,k=>CT r (.R a t p l::k)
def Z.lm{Y tr}:∀(t:T) (k:List F1),Z Y tr t k->Z Y tr .nil (gF t k):=by
 intro zl;induction zl with
 |nil=>
  intro k z;show z
 |nd a l r t p gK jM=>
  intro k z;show gK _ z.oq
def Z.rm{Y tr}:∀(t:T) (k:List F1),Z Y tr t k->Z Y tr .nil (CT t k):=by
 intro zl;induction zl with
 |nil=>
  intro k z;show z
 |nd a l r t p gK jM=>
  intro k z;show jM _ z.xf
def Ob:∀(t:T) (k:List F1),gC .nil (gF t k)=gC t k:=by
 intro zl;induction zl with
 |nil=>
  intro k;show rfl
 |nd a l r t p gK jM=>
  intro k;show gK _
def Oc{a b:List Nd}(h:a≠[]):ou (a++b)=ou a:=by cases a with | nil=>show absurd rfl h | cons _ _=>rfl
def Od:∀(l:T) (a:Nat) (r:T) (t:Int) (p:Nat) (k:List F1),cV (gF (.nd a l r t p) k)=ou (T.nd a l r t p).seq:=by
 intro zl;induction zl with
 |nil=>
  intro a r t p k;show rfl
 |nd b l' r' t' p' gK jM=>
  intro a r t p k;rw[show gF (.nd a (.nd b l' r' t' p') r t p) k=gF (.nd b l' r' t' p') (.L a t p r::k) from rfl,gK];show _=ou ((T.nd b l' r' t' p').seq++_);rw[Oc];simp[T.sO,T.sN]
def JN{a b:List Nd}(h:b≠[]):rg (a++b)=rg b:=by
 unfold rg;rw[List.reverse_append,Oc]
 simpa using h
def amO:∀(r:T) (a:Nat) (l:T) (t:Int) (p:Nat) (k:List F1),cV (CT (.nd a l r t p) k)=rg (T.nd a l r t p).seq:=by
 intro zl;induction zl with
 |nil=>
  intro a l t p k;show V.ref a=rg (l.seq++[(a,t-l.ay-0,p)]);rw[JN (by simp)];rfl
 |nd b l' r' t' p' gK jM=>
  intro a l t p k;rw[show CT (.nd a l (.nd b l' r' t' p') t p) k=CT (.nd b l' r' t' p') (.R a t p l::k) from rfl,jM];show _=rg (l.seq++((a,_,p)::(T.nd b l' r' t' p').seq))
  rewrite [JN (by simp),show((a,t-l.ay-T.ay (.nd b l' r' t' p'),p)::(T.nd b l' r' t' p').seq)=[(a,t-l.ay-T.ay (.nd b l' r' t' p'),p)]++(T.nd b l' r' t' p').seq from rfl,JN]
  rfl;simp[T.sO,T.sN]
def Oe{n Q X Y tr x l r t p k}(z:Z Y tr (.nd x l r t p) k)(hq:Q (cV (gF (.nd x l r t p) k)) Y):(Wn (n+1)).call 57 [.ref x] Q X Y:=by
 exact en (fd:=RQ) rfl ?_;intro P hP;have key:∀(l:T) (x:Nat) (r:T) (t:Int) (p:Nat) (k:List F1),Z Y tr (.nd x l r t p) k->Q (cV (gF (.nd x l r t p) k)) Y->P [(93,.ref x)] Y:=by
  intro l;induction l with
  |nil=>
   intro x r t p k z hq;exact hP _ _ ?_;exact iF z.tt.1 ?_;show hq
  |nd y l' r' t' p' ih _=>
   intro x r t p k z hq;exact hP _ _ ?_;exact iF z.tt.1 ?_;exact iF z.tt.1 ?_;show ih y r' t' p' _ z.oq hq
 show key l x r t p k z hq
def ai9{n Q X Y tr x l r t p k}(z:Z Y tr (.nd x l r t p) k)(hq:Q (cV (CT (.nd x l r t p) k)) Y):(Wn (n+1)).call 70 [.ref x] Q X Y:=by
 exact en (fd:=R5) rfl ?_;intro P hP;have key:∀(r:T) (x:Nat) (l:T) (t:Int) (p:Nat) (k:List F1),Z Y tr (.nd x l r t p) k->Q (cV (CT (.nd x l r t p) k)) Y->P [(93,.ref x)] Y:=by
  intro r;induction r with
  |nil=>
   intro x l t p k z hq;exact hP _ _ ?_;exact iG z.tt.1 ?_;show hq
  |nd y l' r' t' p' _ ih=>
   intro x l t p k z hq;exact hP _ _ ?_;exact iG z.tt.1 ?_;exact iG z.tt.1 ?_;show ih y l' t' p' _ z.xf hq
 show key r x l t p k z hq
def agK{n Q X Y tr x l r t p k}(z:Z Y tr (.nd x l r t p) k)(hq:Q (ou (r.seq++j0 t k)) Y):(Wn (n+2)).call 53 [.ref x] Q X Y:=by
 exact en (fd:=RM) rfl ?_;exact iG z.tt.1 ?_;cases r with
 |nd y l' r' t' p'=>
  exact iG z.tt.1 ?_;exact Oe z.xf ?_;rw[Od]
  rewrite [Oc (by simp[T.sO,T.sN])] at hq
  show hq
 |nil=>
  intro P hP;have key:∀(k:List F1) (x:Nat) (l r:T) (t:Int) (p:Nat),Z Y tr (.nd x l r t p) k->Q (ou (j0 t k)) Y->P [(93,.ref x)] Y:=by
   intro k;induction k with
   |nil=>
    intro x l r t p z hq;exact hP _ _ ?_;exact gB z.tt.1 ?_;exact gB z.tt.1 ?_;show hq
   |cons f k ih=>
    intro x l r t p z hq;cases f with
    |L a t' p' r'=>
     obtain⟨c1,c2,c3⟩:=z.cc;exact hP _ _ ?_;exact gB z.tt.1 ?_;exact gB z.tt.1 ?_;exact iG c1 ?_;cases r' with
     |nil=>
      exact gB z.tt.1 ?_;show hq
     |nd b lb rb tb pb=>
      exact Cw c2.1 z.tt.1 (λe=>?_) (λ_=>?_)
      ·exfalso;subst e;have:=z.nd;have h2:=(nJ this).2.2.1;show h2 (by simp[ik,il,ip,T.aO,T.aN])
      ·exact gB z.tt.1 ?_;show hq
    |R a t' p' l'=>
     obtain⟨c1,c2,c3⟩:=z.cc;exact hP _ _ ?_;exact gB z.tt.1 ?_;exact gB z.tt.1 ?_;exact iG c1 ?_;exact Cw z.tt.1 z.tt.1 (λ_=>?_) (λe=>absurd rfl e);exact gB z.tt.1 ?_;show ih a l' _ t' p' z.JH hq
  show key k x l .nil t p z hq
def amu(a:Nat)(t:Int)(p:Nat)(l:T)(k:List F1)(c:Int):rg (iI c (.R a t p l::k))=.ref a:=by simp[AQ,AR,AU,rg,ou]
def agL{n Q X Y tr x l r t p k}(z:Z Y tr (.nd x l r t p) k)(hq:Q (rg (iI t k++l.seq)) Y):(Wn (n+2)).call 65 [.ref x] Q X Y:=by
 exact en (fd:=R3) rfl ?_;exact iF z.tt.1 ?_;cases l with
 |nd y l' r' t' p'=>
  exact iF z.tt.1 ?_;exact ai9 z.oq ?_;rw[amO]
  rewrite [JN (by simp[T.sO,T.sN])] at hq
  show hq
 |nil=>
  intro P hP;have key:∀(k:List F1) (x:Nat) (l r:T) (t:Int) (p:Nat),Z Y tr (.nd x l r t p) k->Q (rg (iI t k)) Y->P [(93,.ref x)] Y:=by
   intro k;induction k with
   |nil=>
    intro x l r t p z hq;exact hP _ _ ?_;exact gB z.tt.1 ?_;exact gB z.tt.1 ?_;show hq
   |cons f k ih=>
    intro x l r t p z hq;cases f with
    |R a t' p' l'=>
     obtain⟨c1,c2,c3⟩:=z.cc;have dH:Q (.ref a) Y:=by rw[<-amu a t' p' l' k t];show hq
     exact hP _ _ ?_;exact gB z.tt.1 ?_;exact gB z.tt.1 ?_;exact iF c1 ?_;cases l' with
     |nil=>
      exact gB z.tt.1 ?_;show dH
     |nd b lb rb tb pb=>
      exact Cw c2.1 z.tt.1 (λe=>?_) (λ_=>?_)
      ·exfalso;subst e;have:=z.nd;have h2:=(nJ this).2.2.1;show h2 (by simp[ik,il,ip,T.aO,T.aN])
      ·exact gB z.tt.1 ?_;show dH
    |L a t' p' r'=>
     obtain⟨c1,c2,c3⟩:=z.cc;exact hP _ _ ?_;exact gB z.tt.1 ?_;exact gB z.tt.1 ?_;exact iF c1 ?_;exact Cw z.tt.1 z.tt.1 (λ_=>?_) (λe=>absurd rfl e);exact gB z.tt.1 ?_;show ih a _ r' t' p' z.CD hq
  show key k x .nil r t p z (by simpa [T.sO,T.sN] using hq)
def following{n Q X Y tr A B x m p}(h:Tree Y tr (A++(x,m,p)::B))(hq:Q (ou B) Y):(Wn (n+2)).call 53 [.ref x] Q X Y:=by
 obtain⟨l,r,t,c,z,_,_,e⟩:=h.at_;rw[e] at hq;show agK z hq
def aii{n Q X Y tr A B x m p}(h:Tree Y tr (A++(x,m,p)::B))(hq:Q (rg A) Y):(Wn (n+2)).call 65 [.ref x] Q X Y:=by
 obtain⟨l,r,t,c,z,_,e,_⟩:=h.at_;rw[e] at hq;show agL z hq
def JQ{k:List F1}(h:s'.seq=s.seq):cP s' k=cP s k:=by
 unfold cP;rw[h,NR h]
def Og{n Q X tr}{k:List F1}(z:Z Y tr t k)(hp:∀e∈cP t k,0<e.2.1)(hc:(cP t k).length<=1000)
  (hq:∀Y',Tree Y' tr (cP t k)->Fr (tr::jx (cP t k)) Y Y'->Q .none Y'):(Wn (n+4)).call 67 [.ref tr,cV k] Q X Y:=by
 have qo:wSs (Wn (n+3)) rH.body [(58,.ref tr),(93,cV k)] (qN Q) Q X Y->(Wn (n+4)).call 67 [.ref tr,cV k] Q X Y:=λh=>en (fd:=rH) rfl h (h2:=by clear h hc hp hq z;cases k<;>rfl);exact qo ?_;intro P hP;clear qo;have key:∀(k:List F1) (t:T) (Y:So),Z Y tr t k->(∀e∈cP t k,0<e.2.1)->(cP t k).length<=1000->(∀Y',Tree Y' tr (cP t k)->Fr (tr::jx (cP t k)) Y Y'->Q .none Y')->P [(58,.ref tr),(93,cV k)] Y:=by
  intro k;induction k with
  |nil=>
   intro t Y z hp hc hq;show hP _ _ (hq Y (.GQ z hp) .refl)
  |cons f k ih=>
   intro t Y z hp hc hq;obtain⟨a,l,r,m,p,hz,hs⟩:∃a l r m p,Z Y tr (.nd a l r m p) k/\cP (.nd a l r m p) k=cP t (f::k)/\f.a=a:=by
    clear hc hp hq;cases f with
    |L a m p r=>show⟨a,t,r,m,p,z.CD,N6.symm,rfl⟩
    |R a m p l=>show⟨a,l,t,m,p,z.JH,N7.symm,rfl⟩
   obtain⟨hs,v8⟩:=hs;show P [(58,.ref tr),(93,.ref f.a)] Y;rw[v8];exact hP _ _ ?_;have bK:Pos (.nd a l r m p):=Ei.mpr λe he=>hp e (by rw[<-hs];unfold cP;simp[he]);have Oh:(T.nd a l r m p).count<=1000:=by
    rw[<-NM];have:(cP (.nd a l r m p) k).length<=1000:=by rw[hs];show hc
    unfold cP at this;simp at this;show⟨"A.1000,B+(A+C).1000",this⟩
   exact settle hz bK Oh λY' s' z' xh f'=>?_;have dH:=ih s' Y' z' (by rw[JQ xh,hs];show hp) (by rw[JQ xh,hs];show hc) λiQ h1 h2=>hq iQ (by rewrite [JQ xh,hs] at h1;show h1) (by
    rewrite [JQ xh,hs] at h2
    exact Fr.trans (λb o hb hn=>?_) h2
    rewrite [<-hs] at hn
    have Oi:b≠tr:=λe=>hn (by rw[e];show .head _);have Eo:b∉jx (cP (.nd a l r m p) k):=λh=>hn (.tail _ h)
    rewrite [WM,not_or] at Eo
    show f' b o hb Eo.1 Eo.2 Oi)
   cases s' with
   |nil=>
    exfalso;have:=congrArg dS xh;simp[T.sO,T.sN] at this
   |nd a' l' r' m' p'=>
    exact gB z'.tt.1 ?_;show dH
 show key k t Y z hp hc hq
def gL(a b:List Nd):sQ (a++b)=sQ a+sQ b:=by unfold sQ;simp
def nC(e:Nd)(b:List Nd):sQ (e::b)=e.2.1+sQ b:=by unfold sQ;simp
def AY{l:List Nd}(h:∀e∈l,0<e.2.1):0<=sQ l:=by
 induction l with
 |nil=>show km _
 |cons e l ih=>
  rw[nC];show Int.add_nonneg (cH (h e (.head _))) (ih λe he=>h e (.tail _ he))
abbrev Oj(tr:Nat)(at_:Int)(v:V)(b:Int)(ex:Env):Env:=(58,.ref tr)::(6,.int at_)::(93,v)::(86,.int b)::ex
def Ol(tr:Nat)(at_:Int)(v:V)(b:Int)(m:Env):Prop:=∃ex,m=Oj tr at_ v b ex/\Suf [94,18] ex
def Ep{n Q X Y tr sq}{at_:Int}(h:Tree Y tr sq)(h0:0<=at_)(h1:at_<sQ sq)
  (hq:∀c A x m p B,Y c=none->sq=A++(x,m,p)::B->sQ A<=at_->at_<sQ A+m->Q (.ref c) (put Y c (.tup [.ref x,.int (sQ A)]))):(Wn (n+3)).call 32 [.ref tr,.int at_] Q X Y:=by
 obtain⟨t,z,hs,bK⟩:=h;exact en (fd:=Rq) rfl ?_;exact Wl z.rr ?_;intro P hP;have key:∀(t:T) (k:List F1) (b:Int) (m:Env),Z Y tr t k->Pos t->b<=at_->at_<b+t.ay->b=sQ (iI t.ay k)->cP t k=sq->Ol tr at_ t.root b m->P m Y:=by
  intro t;induction t with
  |nil=>
   intro k b m z hp h2 h3;rw[JG] at h3;show fO ⟨"_,a:b,b<a+0",h2,h3⟩
  |nd x l r tt p gK jM=>
   intro k b m z hp h2 h3 hb hz CF;have fin:∀c,Y c=none->b+l.ay<=at_->at_<b+l.ay+(tt-l.ay-r.ay)->Q (.ref c) (put Y c (.tup [.ref x,.int (b+l.ay)])):=λc hc g1 g2=>by
    have e1:sQ (iI tt k++l.seq)=b+l.ay:=by rw[gL,Eh,hb];rfl
    have:=hq c (iI tt k++l.seq) x (tt-l.ay-r.ay) p (r.seq++j0 tt k) hc (by rw[<-hz,En]) ⟨"a:b,c+d:b,a=c+d",g1,e1⟩ ⟨"a<b+(c-d-e),a<f+d+(c-d-e),b=f+d;1,1,-1",g2,e1⟩;rw[e1] at this;show this
   have goL:∀m',Ol tr at_ l.root b m'->at_<b+l.ay->P m' Y:=λm' hm hl=>gK _ b m' z.oq hp.2.1 h2 hl hb (by rw[N6];show hz) hm;have goR:∀m',Ol tr at_ r.root (b+l.ay+(tt-l.ay-r.ay)) m'->b+l.ay+(tt-l.ay-r.ay)<=at_->P m' Y:=λm' hm hl=>jM _ _ m' z.xf hp.2.2 hl (by rw[q9] at h3;show⟨"a<b+c+(d-c-e)+e,a<b+d",h3⟩) (by
    show _=sQ (iI tt k++l.seq++[(x,tt-l.ay-r.ay,p)]);have e1:sQ (iI tt k++l.seq)=b+l.ay:=by rw[gL,Eh,hb];rfl
    rw[gL,e1,nC];show _=b+l.ay+(tt-l.ay-r.ay+0);show⟨"a+b+(c-b-d)=a+b+(c-b-d+0)"⟩) (by rw[N7];show hz) hm
   obtain⟨ex,rfl,hx⟩:=CF;obtain⟨e1,h5,u1⟩:=hx.up;exact hP _ _ ?_;exact iF z.tt.1 ?_;exact qm z.tt.2.1 ?_;show wSs (Wn (n+2)) _ (Oj tr at_ (.ref x) b (Tactic.up ex 94 (.int l.ay))) P Q bW Y;rw[u1];exact Nv z.tt ?_;show wSs (Wn (n+2)) _ (Oj tr at_ (.ref x) b ((94,.int l.ay)::Tactic.up e1 18 (.int (tt-l.ay-r.ay)))) P Q bW Y;rw[h5.up1];conv=>whnf
   split<;>rename_i e
   ·simp at e;exact iF z.tt.1 ?_;show goL _ ⟨_,rfl,⟨[_,_],rfl⟩⟩ e
   ·simp at e;conv=>whnf
    split<;>rename_i e2
    ·simp at e2;intro c hc;show fin c hc e e2
    ·simp at e2;exact iG z.tt.1 ?_;show goR _ ⟨_,rfl,⟨[_,_],rfl⟩⟩ e2
 exact key t [] 0 _ z (Ei.mpr (hs ▸ bK)) h0 (by rw[<-Eh,hs];show⟨"a<0+b,a<b",h1⟩) rfl (by simp[cP,AQ,AR,AU,AV,AW,AX,hs]) ⟨[],rfl,.none _⟩
def WN{n Q X Y a p}{t:Int}(h:Y a=some (.inst 1 []))(hq:∀Y',Y' a=some (nO t p .none .none .none)->(∀b,b≠a->Y' b=Y b)->Q .none Y'):(Wn (n+1)).call 41 [.ref a,.int t,.ref p] Q X Y:=by
 exact en (fd:=Rx) rfl ?_;exact sat h ?_;exact sat au ?_;exact sat au ?_;exact sat au ?_;exact sat au ?_;exact hq _ au λb hb=>?_;rw[ao hb,ao hb,ao hb,ao hb,ao hb]
def alU:∀(r:T) (k:List F1),iI 0 (gF r k)=iI r.ay k/\j0 0 (gF r k)=r.seq++j0 r.ay k:=by
 intro zl;induction zl with
 |nil=>
  intro k;show⟨rfl,rfl⟩
 |nd a l r t p gK jM=>
  intro k;obtain⟨h1,h2⟩:=gK (.L a t p r::k);exact⟨h1,?_⟩;show j0 0 (gF l (.L a t p r::k))=_;rw[h2];simp[AV,AW,AX,T.sO,T.sN,q9]
def attach{Y Y' tr f m pf}{f1:F1}{k:List F1}(z:Z Y tr .nil (f1::k))(hf:f∉bw (f1::k))(JR:f≠tr)
  (h1:∀t p l r q,Y f1.a=some (nO t p l r q)->Y' f1.a=some (match f1 with | .L ..=>nO t p (.ref f) r q | .R ..=>nO t p l (.ref f) q)) (h2:Y' f=some (nO m pf .none .none (.ref f1.a))) (h3:∀b,b≠f1.a->b≠f->Y' b=Y b):Z Y' tr (.nd f .nil .nil m pf) (f1::k):=by
 obtain⟨tt,cc,nd,rr⟩:=z;have dD:(bw (f1::k)).Nodup:=by simpa [T.aO,T.aN] using nd
 have GU:((T.nd f .nil .nil m pf).aB++bw (f1::k)).Nodup:=by
  show(f::bw (f1::k)).Nodup;show aX.mpr ⟨hf,dD⟩
 have xd:tr∉bw (f1::k):=CR.no cc rr;have u6:Y' tr=Y tr:=h3 tr (λe=>xd (by rw[e];show F1.JB)) (aj JR);cases f1 with
 |L a t p r=>
  obtain⟨c1,c2,c3⟩:=cc;have v9:(a::(r.aB++bw k)).Nodup:=dD;rw[aX,aJ,not_or] at v9;exact⟨⟨h2,trivial,trivial⟩,⟨h1 _ _ _ _ _ c1,c2.congr λb hb=>h3 b (gD v9.1.1 hb) (λe=>hf (by rw[<-e];simp[ik,il,ip,hb])),c3.congr λb hb=>h3 b (gD v9.1.2 hb) (λe=>hf (by rw[<-e];simp[ik,il,ip,hb]))⟩,GU,u6.trans rr⟩
 |R a t p r=>
  obtain⟨c1,c2,c3⟩:=cc;have v9:(a::(r.aB++bw k)).Nodup:=dD;rw[aX,aJ,not_or] at v9;exact⟨⟨h2,trivial,trivial⟩,⟨h1 _ _ _ _ _ c1,c2.congr λb hb=>h3 b (gD v9.1.1 hb) (λe=>hf (by rw[<-e];simp[ik,il,ip,hb])),c3.congr λb hb=>h3 b (gD v9.1.2 hb) (λe=>hf (by rw[<-e];simp[ik,il,ip,hb]))⟩,GU,u6.trans rr⟩
def Z.fJ{Y Y' tr t k}{m:Int}(z:Z Y tr t k)(hc:CR Y' t.root (Tactic.fJ m k))(ho:∀b,b∉bw k->Y' b=Y b):Z Y' tr t (Tactic.fJ m k):=by
 have xd:tr∉bw k:=CR.no z.cc z.rr;exact⟨?_,hc,by rw[aiL];show z.nd,?_⟩
 ·rw[GC];show z.tt.congr λb hb=>ho b λh=>(bF.mp z.nd).2.2 b hb b h rfl
 ·rw[aim,ho tr xd];show z.rr
def WO:∀(l:T) (a:Nat) (r:T) (t:Int) (p:Nat) (k:List F1),∃y ty py ry k2,gF (.nd a l r t p) k=.L y ty py ry::k2:=by
 intro zl;induction zl with
 |nil=>
  intro a r t p k;show⟨_,_,_,_,_,rfl⟩
 |nd b l' r' t' p' gK jM=>
  intro a r t p k;show gK b r' t' p' _
def mem_mid{α β:Type}{g:α->β}{A B:List α}{a c:α}{b:β}(h:b∈(A++a::c::B).map g):b=g c\/b∈(A++a::B).map g:=by
 rw[fW] at h ⊢;rcases aJ.mp h with h | h
 ·show .inr (cj _ h)
 ·rcases az.mp h with h | h
  ·show .inr (cQ _ (by rw[h];show .head _))
  ·rcases az.mp h with h | h
   ·show .inl h
   ·show .inr (cQ _ (.tail _ h))
@[elab_as_elim] def vd{o:Option O}{t p l r q t' p' l' r' q'}{P:Int->Nat->V->V->V->Prop}(h:o=some (nO t p l r q))(h':o=some (nO t' p' l' r' q'))(k:P t p l r q):P t' p' l' r' q':=by
 nomatch h,h';show k
def ahl{n Q X Y tr A B x m p f mf pf}(h:Tree Y tr (A++(x,m,p)::B))(hf:Y f=some (nO mf pf .none .none .none))(WQ:f∉jx (A++(x,m,p)::B))(hmf:0<mf)(hlen:(A++(x,m,p)::B).length<=999)
  (hq:∀Y',Tree Y' tr (A++(x,m,p)::(f,mf,pf)::B)->Fr (tr::f::jx (A++(x,m,p)::B)) Y Y'->Q .none Y'):(Wn (n+5)).call 64 [.ref tr,.ref x,.ref f] Q X Y:=by
 have bK:=h.pos;obtain⟨l,r,t,k,z,em,eA,eB⟩:=h.at_;have ez:cP (.nd x l r t p) k=A++(x,m,p)::B:=by rw[En,em,eA,eB]
 have zz:=z.xf.lm r _;obtain⟨e1,e2⟩:=alU r (.R x t p l::k);have lI:∀b,b∈bw (gF r (.R x t p l::k))->b∈jx (A++(x,m,p)::B):=λb hb=>by
  rw[<-ez,<-N7,<-CQ,<-Ob,CQ,WM];show .inr hb
 have GV:f∉bw (gF r (.R x t p l::k)):=λhb=>WQ (lI f hb);have JR:f≠tr:=λe=>by nomatch e,z.rr,hf
 have rest:∀(Y1:So),Z Y1 tr (.nd f .nil .nil mf pf) (gF r (.R x t p l::k))->(∀b,b∉bw (gF r (.R x t p l::k))->b≠f->Y1 b=Y b)->∀m',lk m' 88=some (.ref f)->lk m' 58=some (.ref tr)->(∃v,m'=[(58,.ref tr),(93,.ref v),(88,.ref f)])->wSs (Wn (n+4)) [.ex (.call 63 [(.attr (.v 88) 104),(.attr (.v 88) 103)]),.ex (.call 67 [(.v 58),(.attr (.v 88) 104)])] m' (qN Q) Q X Y1:=by
  rintro Y1 z1 o1 m' - - ⟨v,rfl⟩;exact gB z1.tt.1 ?_;exact nB z1.tt.1 ?_;exact JC z1.cc (bF.mp z1.nd).2.1 λY2 c2 o2=>?_;have z2:Z Y2 tr (.nd f .nil .nil mf pf) (fJ mf (gF r (.R x t p l::k))):=z1.fJ c2 o2;have s2:cP (.nd f .nil .nil mf pf) (fJ mf (gF r (.R x t p l::k)))=A++(x,m,p)::(f,mf,pf)::B:=by
   have h1:=JL mf (gF r (.R x t p l::k)) 0;have h2:=JM mf (gF r (.R x t p l::k)) 0;rw[Int.zero_add] at h1 h2;unfold cP;rw[q9,h1,h2,e1,e2,em,eA,eB];simp[AQ,AR,AU,AV,AW,AX,T.sO,T.sN,JG]
  exact gB z2.tt.1 ?_;have fin:=Og (n:=n) (X:=X) (Q:=λ_ s=>Q .none s) z2 (by
   rw[s2];intro e he;rcases aJ.mp he with h | h
   ·show bK e (cj _ h)
   ·rcases az.mp h with rfl | h
    ·show bK _ (by simp)
    ·rcases az.mp h with rfl | h
     ·show hmf
     ·show bK e (cQ _ (.tail _ h))) (by rw[s2];simp at hlen ⊢;show⟨"A+(B+1+1).1000,A+(B+1).999",hlen⟩) λY3 t3 f3=>by
    rw[s2] at t3 f3;exact hq Y3 t3 λb o hb hn=>?_;have Oi:b≠tr:=λe=>hn (by rw[e];show .head _);have Eo:b≠f:=λe=>hn (by rw[e];show .tail _ (.head _));have WR:b∉jx (A++(x,m,p)::B):=λh=>hn (.tail _ (.tail _ h));have WT:b∉bw (gF r (.R x t p l::k)):=λh=>WR (lI b h);exact f3 b o (by rw[o2 b WT,o1 b WT Eo];show hb) λhm=>?_;rcases az.mp hm with h | h
    ·show Oi h
    ·rcases mem_mid h with h | h
     ·show Eo h
     ·show WR h
  rw[GC] at fin;rw[GC];show fin
 exact en (fd:=R0) rfl ?_;exact iG z.tt.1 ?_;have WU:TR Y (.nd f .nil .nil mf pf) .none:=⟨hf,trivial,trivial⟩;have GU:(T.nd f .nil .nil mf pf).aB.Nodup:=by simp[T.aO,T.aN]
 clear e1 e2 h lI WQ hlen bK hq;cases r with
 |nil=>
  have hxf:x≠f:=λe=>GV (by rw[<-e];show .head _);exact NB (s:=.nd f .nil .nil mf pf) z.tt.1 WU (by simpa [T.aO,T.aN] using hxf) GU λY1 g1 g2 g3=>?_;exact rest Y1 (attach zz GV JR (λt' p' l' r' q' e=>?_) g2.1 λb hb bS=>g3 b hb (by simpa [T.aO,T.aN] using bS)) (λb hb bS=>g3 b (λe=>hb (by rw[e];show .head _)) (by simpa [T.aO,T.aN] using bS)) _ rfl rfl ⟨x,rfl⟩;show vd z.tt.1 e g1
 |nd y l' r' t' p'=>
  exact iG z.tt.1 ?_;exact Oe z.xf ?_;obtain⟨y1,ty,py,ry,k2,jZ⟩:=WO l' y r' t' p' (.R x t p l::k);rw[jZ] at zz GV rest ⊢;obtain⟨c1,c2,c3⟩:=zz.cc;have hyf:y1≠f:=λe=>GV (by rw[<-e];show .head _);exact JD (s:=.nd f .nil .nil mf pf) c1 WU (show y1∉[f] by simpa using hyf) GU λY1 g1 g2 g3=>?_;exact rest Y1 (attach zz GV JR (λt' p' l' r' q' e=>?_) g2.1 λb hb bS=>g3 b hb (by simpa [T.aO,T.aN] using bS)) (λb hb bS=>g3 b (λe=>hb (by rw[e];show .head _)) (by simpa [T.aO,T.aN] using bS)) _ rfl rfl ⟨y1,rfl⟩;show vd c1 e g1
def cK(tr:Nat)(Y Y':So):Prop:=∀b o,Y b=some o->b≠tr->(∀fs,o≠.inst 1 fs)->Y' b=some o
theorem cK.refl:cK tr Y Y:=λ_ _ e _ _=>e
theorem cK.trans(x:cK tr Y1 Y2)(y:cK tr Y2 Y3):cK tr Y1 Y3:=λb o e n i=>y b o (x b o e n i) n i
theorem cK.new{a:Nat}(h:Y a=none):cK tr Y (Tactic.put Y a o):=λb ob e n i=>(ao λq=>by nomatch q,h,e).trans e
theorem cK.node{a:Nat}(h:Y a=some (.inst 1 fs)):cK tr Y (Tactic.put Y a o):=λb ob e n i=>(ao λq=>by nomatch q,h,e;show i _ rfl).trans e
theorem cK.bw{tr Y Y' t k}(z:Z Y tr t k)(h:∀b,b∉Tactic.bw k->Y' b=Y b):cK tr Y Y':=λb o e n i=>by
 by_cases hb:b∈Tactic.bw k
 ·obtain⟨t,p,l,r,q,e'⟩:=CR.at_ z.cc b hb
  nomatch e',e;show absurd rfl (i _)
 ·rw[h b hb];show e
theorem Tree.j8{Y Y' tr sq}(h:Tree Y tr sq)(f:Fr (tr::jx sq) Y Y'):cK tr Y Y':=λb o e n i=>by
 exact f b o e λhm=>?_;rcases az.mp hm with h' | h'
 ·show n h'
 ·obtain⟨A,B,m,p,rfl⟩:=xi h';obtain⟨t,l,r,q,e'⟩:=h.node
  nomatch e',e;show i _ rfl
def text_len{k Q X Y tr sq}(h:Tree Y tr sq)(hq:Q (.int (sQ sq)) Y):(Wn (k+2)).call 31 [.ref tr] Q X Y:=by
 obtain⟨t,z,rfl,_⟩:=h
 rewrite [Eh] at hq
 exact en (fd:=Rp) rfl ?_;exact Wl z.rr ?_;show(Wn (k+1)).call 47 [t.root] _ X Y;show qm z.tt hq
def eI(sq:List Nd):List Nat:=sq.flatMap λe=>bH e.2.1.toNat e.2.2
def Cut(sq:List Nd)(b:Int):Prop:=∃A B,sq=A++B/\sQ A=b
def JS(a b:List Nd):eI (a++b)=eI a++eI b:=by unfold eI;simp
def Er(x:Nat)(m:Int)(p:Nat)(b:List Nd):eI ((x,m,p)::b)=bH m.toNat p++eI b:=by unfold eI;simp
theorem wa:∀{sq:List Nd},(∀e∈sq,0<e.2.1)->((eI sq).length:Int)=sQ sq
 | [],_=>rfl
 |(x,m,p)::B,h=>by
  rw[Er,nC,cR,oQ];have h1:=wa λe he=>h e (.tail _ he);have h2:0<m:=h _ (.head _);show((m.toNat+(eI B).length:Nat):Int)=m+sQ B;show⟨"'(A+B)=a+b,'B=b,'A=a;1,1,1;1,-1,-1",h1,aH ⟨"0:a,0<a",h2⟩⟩
theorem xj:∀{sq:List Nd},(∀e∈sq,0<e.2.1)->(sq.length:Int)<=sQ sq
 | [],_=>km _
 |(x,m,p)::B,h=>by
  rw[nC];have h1:=xj λe he=>h e (.tail _ he);have h2:0<m:=h _ (.head _);show((B.length+1:Nat):Int)<=m+sQ B;show⟨"'(A+1):a+b,'A:b,0<a",h1,h2⟩
def AZ(sq Es:List Nd):Prop:=eI Es=eI sq/\∀b,Cut sq b->Cut Es b
theorem AZ.refl{sq}:AZ sq sq:=⟨rfl,λ_ h=>h⟩
theorem AZ.trans{a b c}(x:AZ a b)(y:AZ b c):AZ a c:=⟨y.1.trans x.1,λi h=>y.2 i (x.2 i h)⟩
def aiY(a b:Nat)(p:Nat):bH (a+b) p=bH a p++bH b p:=by
 induction a with
 |zero=>simp
 |succ a ih=>rw[show a+1+b=(a+b)+1 from by show⟨"A+1+B~A+B+1"⟩,lW,ih,lW];rfl
def agU{A B:List Nd}{x f p:Nat}{m i:Int}(h0:0<i)(h1:i<m):AZ (A++(x,m,p)::B) (A++(x,i,p)::(f,m-i,p)::B):=by
 constructor
 ·rw[JS,JS,Er,Er,Er];have:m.toNat=i.toNat+(m-i).toNat:=⟨"A~B+C,'A=a,'B=b,'C=a-b;1,1,-1,-1;1,-1,1,1",aH ⟨"0:a,0<b,b<a",h0,h1⟩,aH ⟨"0:a,0<a",h0⟩,aH ⟨"0:a-b,b<a",h1⟩⟩;rw[this,aiY];simp only[dR]
 ·rintro b ⟨C,D,e,rfl⟩;rcases sf.mp e with⟨u,hu,hv⟩ | ⟨u,hu,hv⟩
  ·cases u with
   |nil=>
    exact⟨A,_,rfl,?_⟩;rw[hu];simp
   |cons y u=>
    injection hv with qU Av;subst qU;exact⟨A++(x,i,p)::(f,m-i,p)::u,D,?_,?_⟩
    ·rw[Av];simp
    ·rw[hu,gL,gL,nC,nC,nC];show sQ A+(i+(m-i+sQ u))=sQ A+(m+sQ u);show⟨"a+(b+(c-b+d))=a+(c+d)"⟩
  ·show⟨C,u++(x,i,p)::(f,m-i,p)::B,by rw[hu];simp,rfl⟩
def WV{n Q X Y tr sq}{at_:Int}(h:Tree Y tr sq)(hlen:sq.length<=900)
  (hq:∀Y' Es,Tree Y' tr Es->AZ sq Es->(0<=at_->at_<=sQ sq->Cut Es at_)->cK tr Y Y'->Q .none Y'):(Wn (n+6)).call 61 [.ref tr,.int at_] Q X Y:=by
 exact en (fd:=RX) rfl ?_;conv=>whnf
 have out:∀Y',Y'=Y->(at_<=0\/sQ sq<=at_)->Q .none Y':=λY' e hc=>by
  subst e;exact hq _ sq h .refl (λg1 g2=>?_) .refl;rcases hc with hc | hc
  ·show⟨[],sq,rfl,by show(0:Int)=_;show⟨"0=a,0:a,a:0;1,1,0;1,0,1",g1,hc⟩⟩
  ·show⟨sq,[],by simp,⟨"a=b,b:a,a:b;1,0,1;1,1,0",g2,hc⟩⟩
 split<;>rename_i e
 ·simp only[decide_eq_true_eq] at e;exact text_len h ?_;conv=>whnf
  split<;>rename_i e2
  ·simp at e2;show out _ rfl (.inr e2)
  ·simp at e2;exact Ep h ⟨"0:a,0<a",e⟩ e2 λc A x m p B hc nK g1 g2=>?_;have hd:Tree (put Y c (.tup [.ref x,.int (sQ A)])) tr sq:=h.put λcl fs=>by rw[hc];simp
   have iJ:cK tr Y (put Y c (.tup [.ref x,.int (sQ A)])):=.new hc;subst nK
   exists au
   exact⟨rfl,?_⟩;conv=>whnf
   split<;>rename_i e3
   ·simp at e3;show hq _ _ hd .refl (λ_ _=>⟨A,_,rfl,e3⟩) iJ
   ·simp at e3;exact GR hd ?_;obtain⟨l,r,t,k,z,em,eA,eB⟩:=hd.at_;exact JC (k:=.L x t p r::k) z.oq.cc (bF.mp z.oq.nd).2.1 λY1 c1 o1=>?_;have z1:=z.oq.fJ c1 o1;have qt:=iJ.trans (cK.bw z.oq o1);generalize jy:m-(at_-sQ A)=rest at *;have z2:Z Y1 tr (.nd x l r (t+(0-rest)) p) (fJ (0-rest) k):=Z.CD z1;have wW:cP (.nd x l r (t+(0-rest)) p) (fJ (0-rest) k)=A++(x,at_-sQ A,p)::B:=by
     rw[En,JL,JM,eA,eB];have:t+(0-rest)-l.ay-r.ay=at_-sQ A:=by rw[em] at jy;show⟨"a+(0-b)-c-d=e-f,a-c-d-(e-f)=b;1,1;1,-1",jy⟩
     rw[this,eA]
    have hp2:∀e∈cP (.nd x l r (t+(0-rest)) p) (fJ (0-rest) k),0<e.2.1:=by
     rw[wW];intro e he;rcases aJ.mp he with he | he
     ·show hd.pos e (cj _ he)
     ·rcases az.mp he with rfl | he
      ·show yk (iW.mpr ⟨g1,e3⟩)
      ·show hd.pos e (cQ _ (.tail _ he))
    have t2:Tree Y1 tr _:=.GQ z2 hp2
    rewrite [wW] at t2
    exact Ee z2.tt.1 ?_;intro f hf;exact WN au λY2 k1 k2=>⟨rfl,?_⟩;have CV:∀b,b≠f->Y2 b=Y1 b:=λb hb=>(k2 b hb).trans (ao hb);have nf:f∉jx (A++(x,at_-sQ A,p)::B):=λhm=>by
     obtain⟨A',B',n',p',e'⟩:=xi hm
     rewrite [e'] at t2
     obtain⟨_,_,_,_,Om⟩:=t2.node
     nomatch hf,Om
    have Oo:tr≠f:=λe=>by have:=z2.rr;nomatch e,hf,this
    have t3:Tree Y2 tr _:=t2.fr (λb hb=>CV b (gD nf hb)) (CV tr Oo);exact ahl t3 k1 nf ⟨"0<a,b<c+d,d-(b-c)=a",g2,jy⟩ (by simp at hlen ⊢;show⟨"A+(B+1).999,A+(B+1).900",hlen⟩) λY3 t4 f4=>?_;have gJ:=agU (A:=A) (B:=B) (x:=x) (f:=f) (p:=p) (m:=m) (i:=at_-sQ A) (yk (iW.mpr ⟨g1,e3⟩)) ⟨"a-b<c,a<b+c",g2⟩
    rewrite [jy] at gJ
    exact hq Y3 _ t4 gJ (λ_ _=>⟨A++[(x,at_-sQ A,p)],(f,rest,p)::B,by simp,?_⟩) (qt.trans λb o e' n' i'=>?_)
    ·rw[gL,nC];show sQ A+(at_-sQ A+0)=at_;show⟨"a+(b-a+0)=b"⟩
    ·have k9:b≠f:=λq=>by nomatch q,hf,e'
     exact f4 b o (by rw[CV b k9];show e') λhm=>?_;rcases az.mp hm with q | hm
     ·show n' q
     ·rcases az.mp hm with q | hm
      ·show k9 q
      ·obtain⟨A',B',n',p',rh⟩:=xi hm
       rewrite [rh] at t2
       obtain⟨_,_,_,_,Om⟩:=t2.node
       nomatch Om,e';show i' _ rfl
 ·simp at e;show out _ rfl (.inl e)
def xm(l:T):T->T
 | .nil=>l
 | .nd a A B t p=>.nd a (xm l A) B (t+l.ay) p
def JT(m:Int):T->List F1->List F1
 | .nil,k=>k
 | .nd a A B t p,k=>JT m A (.L a (t+m) p B::k)
theorem WW(l:T):∀r:T,(xm l r).ay=r.ay+l.ay
 | .nil=>by show l.ay=0+l.ay;show⟨"a=0+a"⟩
 | .nd a A B t p=>rfl
def akP(l:T):∀r:T,(xm l r).seq=l.seq++r.seq:=by
 intro zl;induction zl with
 |nil=>
  show l.seq=l.seq++[];simp
 |nd a A B t p gK jM=>
  show(xm l A).seq++(a,t+l.ay-(xm l A).ay-B.ay,p)::B.seq=l.seq++(A.seq++(a,t-A.ay-B.ay,p)::B.seq);rw[gK,WW l A];have:t+l.ay-(A.ay+l.ay)-B.ay=t-A.ay-B.ay:=⟨"a+b-(c+b)-d=a-c-d"⟩;rw[this];simp
def WX(l:T):∀(r:T) (k:List F1),gC l (JT l.ay r k)=gC (xm l r) k:=by
 intro zl;induction zl with
 |nil=>
  intro k;show rfl
 |nd a A B t p gK jM=>
  intro k;show gK _
theorem aoQ{n Q X Y tr s x k tx px lx rx q0}(hx:Y x=some (nO tx px lx rx (cV k)))(hc:CR Y (.ref x) k)(hr:Y tr=some (lN (AK (.ref x) k)))(hs:TR Y s q0)(nd:(s.aB++bw k).Nodup)(xk:x∉bw k)(xs:x∉s.aB)
  (hq:∀Y',Z Y' tr s k->(∀b,b∉s.aB->b∉bw k->b≠tr->Y' b=Y b)->Q .none Y'):(Wn (n+1)).call 71 [.ref tr,.ref x,s.root] Q X Y:=
 Ny hx hc hr hs nd xk xs λY' a b c d=>hq Y' ⟨a,b,nd,c⟩ d
def ajd{x:Nat}{lt:Int}{ll lr lq:V}{lp la:Nat}{av:V}(hl:l.ay=lt){P:Env->So->Prop}{N:Env->So->Prop}
  (hP:∀m s,wB (Wn n) (.cmp .cM (.v 112) (.v 109)) m (wE (Wn n) (.cmp .cM (.v 112) (.v 109)) m) (λt s'=>match t with
   |true=>wSs (Wn n) [.asg (.attr (.v 112) 103) (.ar .add (.attr (.v 112) 103) (.attr (.v 111) 103)),.asg (.v 112) (.attr (.v 112) 104)] m P R bW s'
   |false=>N m s') bW s->P m s)
  : ∀(r:T) (k:List F1) (Y:So),Z Y tr l (gF r k)->(∀b∈r.aB,.ref b≠av/\b≠la)->(av=.none\/∃b,av=.ref b/\b∈bw k)->Y la=some (nO lt lp ll lr lq) ->
   (∀Y',Z Y' tr (xm l r) k->(∀b,b∉r.aB->Y' b=Y b)->P [(58,.ref tr),(93,.ref x),(109,av),(111,.ref la),(112,cV k)] Y')->P [(58,.ref tr),(93,.ref x),(109,av),(111,.ref la),(112,cV (gF r k))] Y:=by
 intro r;induction r with
 |nil=>intro k Y z _ _ _ hq;show hq Y z λ_ _=>rfl
 |nd a A B t p ih _=>
  intro k Y z ha WY JV hq;exact ih (.L a t p B::k) Y z (λb hb=>ha b (by simp[T.aO,T.aN,hb])) (WY.imp id λzz=>by obtain⟨b,e,hb⟩:=zz;show⟨b,e,by simp[ik,il,ip,hb]⟩) JV λY1 z1 o1=>?_;have Oq:Y1 la=some (nO lt lp ll lr lq):=(o1 la λh=>(ha la (by simp[T.aO,T.aN,h])).2 rfl).trans JV;obtain⟨c1,c2,c3⟩:=z1.cc;show P [(58,.ref tr),(93,.ref x),(109,av),(111,.ref la),(112,.ref a)] Y1;have haa:V.ref a≠av:=(ha a (by simp[T.aO,T.aN])).1;have uS:a≠la:=(ha a (by simp[T.aO,T.aN])).2;have fin:wSs (Wn n) [.asg (.attr (.v 112) 103) (.ar .add (.attr (.v 112) 103) (.attr (.v 111) 103)),.asg (.v 112) (.attr (.v 112) 104)] [(58,.ref tr),(93,.ref x),(109,av),(111,.ref la),(112,.ref a)] P R bW Y1:=by
   exact nB c1 ?_;exact nB Oq ?_;exact Cz c1 ?_;exact gB au ?_;exact hq _ ?_ λb hb=>?_
   ·have hn:=z1.nd;have hd:=bF.mp hn;have z2:Z (put Y1 a (nO (t+lt) p (xm l A).root B.root (cV k))) tr (xm l A) (.L a (t+lt) p B::k):=by
     have dD:(a::(B.aB++bw k)).Nodup:=hd.2.1;rw[aX,aJ,not_or] at dD;exact⟨z1.tt.congr λb hb=>ao λe=>?_,⟨au,c2.congr λb hb=>ao (gD dD.1.1 hb),c3.congr λb hb=>ao (gD dD.1.2 hb)⟩,hn,?_⟩
     ·show hd.2.2 b hb a (.head _) e
     ·rw[ao λe=>?_]
      ·show z1.rr
      ·have:=z1.rr;nomatch e,c1,this
    have z3:=z2.CD;rw[<-hl] at z3 ⊢;show z3
   ·have:b≠a/\b∉A.aB:=⟨λe=>hb (by simp[T.aO,T.aN,e]),λe=>hb (by simp[T.aO,T.aN,e])⟩;rw[ao this.1,o1 b this.2]
  exact hP _ _ ?_;clear ha hq ih;rcases WY with rfl | ⟨b,rfl,hb⟩
  ·show fin
  ·obtain⟨_,_,_,_,_,bS⟩:=CR.at_ z1.cc b (by simp[ik,il,ip,hb]);have:=Wk (K:=λt=>match t with
    |true=>wSs (Wn n) [.asg (.attr (.v 112) 103) (.ar .add (.attr (.v 112) 103) (.attr (.v 111) 103)),.asg (.v 112) (.attr (.v 112) 104)] [(58,.ref tr),(93,.ref x),(109,.ref b),(111,.ref la),(112,.ref a)] P R bW Y1
    |false=>N [(58,.ref tr),(93,.ref x),(109,.ref b),(111,.ref la),(112,.ref a)] Y1) c1 bS (λ_=>fin) (λe=>absurd (by rw[e]) haa)
   show this
theorem ahp{Y1 tr x l r t p k'}(z1:Z Y1 tr (.nd x l r t p) k'):∀b,b∈l.aB\/b∈r.aB\/b∈bw k'->∃n p l r q,Y1 b=some (nO n p l r q):=λb hb=>by
 rcases hb with hb | hb | hb
 ·show TR.at_ z1.tt.2.1 b hb
 ·show TR.at_ z1.tt.2.2 b hb
 ·show CR.at_ z1.cc b hb
def JW{n X Y1 tr x l r t p k'}(z1:Z Y1 tr (.nd x l r t p) k'):∀(s:T) (Q1:V->So->Prop),TR Y1 s (.ref x)->(s.aB++bw k').Nodup->x∉s.aB->(∀b∈s.aB,b∈l.aB\/b∈r.aB)->(∀Y2,Z Y2 tr s k'->cK tr Y1 Y2->(∀b,b∉s.aB->b∉bw k'->b≠tr->Y2 b=Y1 b)->Q1 .none Y2)->(Wn (n+4)).call 71 [.ref tr,.ref x,s.root] Q1 X Y1:=by
 have x3:=(nJ z1.nd).2.2.1;intro s Q1 hs hn hx q8 hQ1;exact aoQ z1.tt.1 z1.cc z1.rr hs hn x3 hx λY2 z2 o2=>hQ1 Y2 z2 (λb o e n i=>?_) o2;by_cases hb:b∈s.aB
 ·obtain⟨_,_,_,_,_,e'⟩:=TR.at_ hs b hb
  nomatch e',e;show absurd rfl (i _)
 ·by_cases qp:b∈bw k'
  ·obtain⟨_,_,_,_,_,e'⟩:=CR.at_ z1.cc b qp
   nomatch e',e;show absurd rfl (i _)
  ·rw[o2 b hb qp n];show e
def Ot{n Q X Y1 tr x l r t p k'}{zs:List Nd}(z1:Z Y1 tr (.nd x l r t p) k')(qu:∀s:T,s.ay=l.ay+r.ay->s.seq=l.seq++r.seq->cP s k'=zs)
  (A1:∀(s:T) (j:List F1) (Y2:So),Z Y2 tr s j->cP s j=zs->cK tr Y1 Y2->(Wn (n+4)).call 67 [.ref tr,cV j] (λ_ s=>Q .none s) X Y2):∀(s:T) (Y2:So) (w:V),Z Y2 tr s k'->s.ay=l.ay+r.ay->s.seq=l.seq++r.seq->cK tr Y1 Y2->wSs (Wn (n+4)) [.ex (.call 67 [.v 58,.v 109]),.ret .cN] [(58,.ref tr),(93,.ref x),(109,cV k'),(110,w)] (λ_ _=>False) Q X Y2:=by
 intro s Y2 w z2 e1 e2 qt;have:=A1 s k' Y2 z2 (qu s e1 e2) qt;clear qu z1 z2;cases k' with
 |nil=>show this
 |cons f k'=>show this
def ai5{n Q X Y1 tr x l r t p k'}{zs:List Nd}(z1:Z Y1 tr (.nd x l r t p) k')(qu:∀s:T,s.ay=l.ay+r.ay->s.seq=l.seq++r.seq->cP s k'=zs)
  (A1:∀(s:T) (j:List F1) (Y2:So),Z Y2 tr s j->cP s j=zs->cK tr Y1 Y2->(Wn (n+4)).call 67 [.ref tr,cV j] (λ_ s=>Q .none s) X Y2):wSs (Wn (n+4)) (KV.body.drop 2) [(58,.ref tr),(93,.ref x),(109,cV k')] (qN Q) Q X Y1:=by
 cases l with
 |nil=>
  exact iF z1.tt.1 ?_;exact iG z1.tt.1 ?_;cases r with
  |nil=>
   obtain⟨x1,x2,x3,x4,x5,x6,x7,x8⟩:=nJ z1.nd;exact iF z1.tt.1 ?_;exact JW z1 .nil _ trivial (by simpa [T.aO,T.aN] using x6) (by simp[T.aO,T.aN]) (by simp[T.aO,T.aN]) λY2 z2 f2 _=>?_;show Ot z1 qu A1 .nil Y2 _ z2 rfl rfl f2
  |nd b l' r' t' p'=>
   obtain⟨x1,x2,x3,x4,x5,x6,x7,x8⟩:=nJ z1.nd;exact iG z1.tt.1 ?_;exact JW z1 (.nd b l' r' t' p') _ z1.tt.2.2 (bF.mpr ⟨x5,x6,λu hu v hv e=>x8 u hu (e ▸ hv)⟩) x2 (λb hb=>.inr hb) λY2 z2 f2 _=>?_;show Ot z1 qu A1 (.nd b l' r' t' p') Y2 _ z2 (by rw[JG];show⟨"a=0+a"⟩) (by simp[T.sO,T.sN]) f2
 |nd a la lb lt lp=>
  exact iF z1.tt.1 ?_;exact iG z1.tt.1 ?_;cases r with
  |nil=>
   obtain⟨x1,x2,x3,x4,x5,x6,x7,x8⟩:=nJ z1.nd;exact iG z1.tt.1 ?_;exact iF z1.tt.1 ?_;exact JW z1 (.nd a la lb lt lp) _ z1.tt.2.1 (bF.mpr ⟨x4,x6,λu hu v hv e=>(x7 u hu).2 (e ▸ hv)⟩) x1 (λb hb=>.inl hb) λY2 z2 f2 _=>?_;show Ot z1 qu A1 (.nd a la lb lt lp) Y2 _ z2 (by rw[JG];show⟨"a=a+0"⟩) (by simp[T.sO,T.sN]) f2
  |nd b l' r' t' p'=>
   obtain⟨x1,x2,x3,x4,x5,x6,x7,x8⟩:=nJ z1.nd;exact iF z1.tt.1 ?_;exact iG z1.tt.1 ?_;exact Oe z1.xf ?_;rw[Od,<-Od l' b r' t' p' k'];obtain⟨y1,ty,py,ry,k2,jZ⟩:=WO l' b r' t' p' k';have GW:cV (gF (.nd b l' r' t' p') k')=.ref y1:=by rw[jZ];rfl
   rw[GW];exact iG z1.tt.1 ?_;exact JW z1 (.nd b l' r' t' p') _ z1.tt.2.2 (bF.mpr ⟨x5,x6,λu hu v hv e=>x8 u hu (e ▸ hv)⟩) x2 (λb hb=>.inr hb) λY2 z2 f2 o2=>?_;have zy:=Z.lm _ _ z2;rw[jZ] at zy;obtain⟨c1,c2,c3⟩:=zy.cc;have WZ:tr∉(T.nd a la lb lt lp).aB:=λhm=>by
    obtain⟨_,_,_,_,_,e'⟩:=ahp z1 tr (.inl hm)
    nomatch z1.rr,e'
   have Gy:TR Y2 (.nd a la lb lt lp) (.ref x):=z1.tt.2.1.congr λb' bS=>o2 b' (x7 b' bS).1 (x7 b' bS).2 (gD WZ bS);have lI:∀u,u∈bw (gF (.nd b l' r' t' p') k')->u∈(T.nd b l' r' t' p').aB\/u∈bw k':=λu hu=>by
    rw[<-Em,<-Ob,Em];show .inr hu
   have y1l:y1∉(T.nd a la lb lt lp).aB:=λhm=>by
    rcases lI y1 (by rw[jZ];show .head _) with h | h
    ·show(x7 y1 hm).1 h
    ·show(x7 y1 hm).2 h
   exact JD (s:=.nd a la lb lt lp) c1 Gy y1l x4 λY3 g1 g2 g3=>?_;have z3:Z Y3 tr (.nd a la lb lt lp) (gF (.nd b l' r' t' p') k'):=by
    have dis:∀u∈(T.nd a la lb lt lp).aB,u∉bw (gF (.nd b l' r' t' p') k'):=λu hu FL=>by
     rcases lI u FL with h | h
     ·show(x7 u hu).1 h
     ·show(x7 u hu).2 h
    have v9:=(bF.mp zy.nd).2.1;rw[jZ] at dis ⊢;have Ou:(y1::(ry.aB++bw k2)).Nodup:=v9;rw[aX,aJ,not_or] at Ou;exact⟨g2,⟨g1,c2.congr λu hu=>g3 u (gD Ou.1.1 hu) λh=>dis u h (by simp[ik,il,ip,hu]),c3.congr λu hu=>g3 u (gD Ou.1.2 hu) λh=>dis u h (by simp[ik,il,ip,hu])⟩,bF.mpr ⟨x4,v9,λu hu v hv e=>dis u hu (e ▸ hv)⟩,?_⟩;have aU:tr≠y1:=λe=>by have:=zy.rr;nomatch e,c1,this
    rw[g3 tr aU WZ];show zy.rr
   have f3:cK tr Y2 Y3:=λu o e n' i=>by
    by_cases h1:u=y1
    ·nomatch h1,c1,e;show absurd rfl (i _)
    ·by_cases h2:u∈(T.nd a la lb lt lp).aB
     ·obtain⟨_,_,_,_,_,e'⟩:=TR.at_ Gy u h2
      nomatch e',e;show absurd rfl (i _)
     ·rw[g3 u h1 h2];show e
   intro P hP;have key:=ajd (n:=n+4) (tr:=tr) (x:=x) (lt:=lt) (la:=a) (av:=cV k') (l:=.nd a la lb lt lp) rfl hP (.nd b l' r' t' p') k' Y3 z3 (λu hu=>⟨λe=>?_,λe=>(x7 a (by simp[T.aO,T.aN])).1 (e ▸ hu)⟩) (by clear lI GW jZ o2 qu x3 x6 x7 x8 z1 z2 z3;cases k' with
    |nil=>show .inl rfl
    |cons f k'=>show .inr ⟨f.a,rfl,F1.JB⟩) g2.1 λY4 z4 o4=>?_
   ·rw[GW] at key;show key
   ·clear lI GW jZ o2 qu x3 x6 x7 z1 z2 z3;cases k' with
    |nil=>cases e
    |cons f k'=>
     injection e with e;show x8 u hu (by rw[e];show F1.JB)
   ·exact hP _ _ ?_;have f4:cK tr Y3 Y4:=λu o e n' i=>by
     by_cases h2:u∈(T.nd b l' r' t' p').aB
     ·have h3:u∈(gC (.nd a la lb lt lp) (gF (.nd b l' r' t' p') k')).aB:=by
       have h5:=(Em k' (.nd b l' r' t' p') u).mpr (.inl h2);rw[<-Ob,Em] at h5;rcases h5 with h5 | h5
       ·cases h5
       ·show(Em _ _ u).mpr (.inr h5)
      obtain⟨_,_,_,_,_,e'⟩:=TR.at_ z3.N8.tt u h3
      nomatch e',e;show absurd rfl (i _)
     ·rw[o4 u h2];show e
    have z5:Z Y4 tr (.nd a la lb lt lp) (JT lt (.nd b l' r' t' p') k'):=by
     have:=z4.N8;rw[<-WX] at this;show this.WL
    have W0:cP (.nd a la lb lt lp) (JT lt (.nd b l' r' t' p') k')=_:=(CQ _ _).symm.trans ((congrArg T.seq (WX (.nd a la lb lt lp) (.nd b l' r' t' p') k')).trans ((CQ k' _).trans (qu _ (by rw[WW];show⟨"a+b=b+a"⟩) (akP _ _))));have fin:=A1 _ _ Y4 z5 W0 ((f2.trans f3).trans f4);have fin2:wSs (Wn (n+4)) [.ex (.call 67 [.v 58,.attr (.v 111) 104])] [(58,.ref tr),(93,.ref x),(109,cV k'),(111,.ref a),(112,cV k')] (qN Q) Q X Y4:=by
     exact gB z5.tt.1 ?_;show fin
    clear fin lI GW jZ W0 o2 qu x3 x6 x7 x8 z1 z2 z3 z5;cases k' with
    |nil=>show fin2
    |cons f k'=>
     obtain⟨_,_,_,_,_,bS⟩:=CR.at_ z4.cc f.a F1.JB;have:=Wk (K:=λt=>match t with
      |true=>wSs (Wn (n+4)) [.asg (.attr (.v 112) 103) (.ar .add (.attr (.v 112) 103) (.attr (.v 111) 103)),.asg (.v 112) (.attr (.v 112) 104)] [(58,.ref tr),(93,.ref x),(109,.ref f.a),(111,.ref a),(112,.ref f.a)] P Q bW Y4
      |false=>wSs (Wn (n+4)) [.ex (.call 67 [.v 58,.attr (.v 111) 104])] [(58,.ref tr),(93,.ref x),(109,.ref f.a),(111,.ref a),(112,.ref f.a)] (qN Q) Q X Y4) bS bS (λh=>absurd rfl h) (λ_=>fin2)
     show this
def drop{n Q X Y tr A B x m p}(h:Tree Y tr (A++(x,m,p)::B))(hlen:(A++(x,m,p)::B).length<=900)
  (hq:∀Y',Tree Y' tr (A++B)->cK tr Y Y'->Q .none Y'):(Wn (n+5)).call 66 [.ref tr,.ref x] Q X Y:=by
 have bK:=h.pos;obtain⟨l,r,t,k,z,em,eA,eB⟩:=h.at_;have JX:∀e∈A++B,0<e.2.1:=λe he=>bK e (by
  rcases aJ.mp he with h | h
  ·show cj _ h
  ·show cQ _ (.tail _ h))
 have hlA:(A++B).length<=900:=by simp at hlen ⊢;show⟨"A+B.900,A+(B+1).900",hlen⟩
 exact en (fd:=KV) rfl ?_;exact gB z.tt.1 ?_;exact Nv z.tt ?_;exact JC z.cc (bF.mp z.nd).2.1 λY1 c1 o1=>?_;have z1:=z.fJ c1 o1;have iJ:cK tr Y Y1:=cK.bw z o1;have qu:∀s:T,s.ay=l.ay+r.ay->s.seq=l.seq++r.seq->cP s (fJ (0-(t-l.ay-r.ay)) k)=A++B:=λs e1 e2=>by
  unfold cP;have:s.ay=t+(0-(t-l.ay-r.ay)):=⟨"a=b+(0-(b-c-d)),a=c+d;1,1;1,-1",e1⟩;rw[this,JL,JM,e2,eA,eB];simp
 generalize fJ (0-(t-l.ay-r.ay)) k=k' at *;clear c1 o1 z h;exact gB z1.tt.1 ?_;have A1:∀(s:T) (j:List F1) (Y2:So),Z Y2 tr s j->cP s j=A++B->cK tr Y1 Y2->(Wn (n+4)).call 67 [.ref tr,cV j] (λ_ s=>Q .none s) X Y2:=by
  intro s j Y2 z2 e qt;exact Og z2 (by rw[e];show JX) (by rw[e];show⟨"A.1000,A.900",hlA⟩) λY3 t3 f3=>?_;have t2:Tree Y2 tr _:=.GQ z2 (by rw[e];show JX);have:=t2.j8 f3;rw[e] at t3;show hq Y3 t3 ((iJ.trans qt).trans this)
 show ai5 z1 qu A1
theorem iT{a xs}{i:Int}{x:V}{K:V->Prop}(h:Y a=some (.lst xs))(hx:ix xs i=some x)(hk:K x):Fb (.ref a) (.int i) K Y:=aoC h (By hx hk)
theorem aaa{a xs}{i:Int}{x:V}{K:V->Prop}(h:Y a=some (.tup xs))(hx:ix xs i=some x)(hk:K x):Fb (.ref a) (.int i) K Y:=aoO h (By hx hk)
theorem apt{a es ep}{i:Int}{x:V}{K:V->Prop}(h:Y a=some (.cu es ep))(hx:fB es i=some x)(hk:K x):Fb (.ref a) (.int i) K Y:=apv h (By hx hk)
def ve{xs:List V}{x:V}(h:xs[i]?=some x):ix xs (i:Int)=some x:=by
 unfold ix;rw[if_pos ⟨"0:'A"⟩];simpa using h
def GX{a b xs ys}(ha:Y a=some (.lst xs))(hb:Y b=some (.lst ys))(hl:xs.length+ys.length<big)(hq:∀c,Y c=none->Q (.ref c) (put Y c (.lst (xs++ys)))):arith .cat (.ref a) (.ref b) Q Y:=by
 show m9 (Y a) λxs=>m9 (Y b) λys=>xs.length+ys.length<big/\new (.lst (xs++ys)) Q Y;rw[ha,hb];show⟨hl,hq⟩
def Ov{step:V->Env->(Env->So->Prop)->So->Prop}{Q:Env->So->Prop}(I:Int->Env->So->Prop)(a b:Int)(GY:a<=b)
  (hs:∀i m s,a<=i->i<b->I i m s->∀K:Env->So->Prop,(∀m' s',I (i+1) m' s'->K m' s')->step (.int i) m K s) (he:∀m s,I b m s->Q m s):∀(m:Env) (s:So),I a m s->loop step (λ_=>True) Q (rE a b) m s:=by
 have key:∀(n:Nat) (j:Nat) (m s),j+n=(b-a).toNat->I (a+j) m s->loop step (λ_=>True) Q ((List.range' j n).map λ(i:Nat)=>V.int (a+(i:Int))) m s:=by
  intro n;induction n with
  |zero=>
   intro j m s hj hi;have:a+(j:Int)=b:=⟨"a+'A=b,A+0~B,'B=b-a;1,1,1;1,-1,-1",hj,aH ⟨"0:a-b,b:a",GY⟩⟩;rw[this] at hi;show⟨trivial,he m s hi⟩
  |succ n ih=>
   intro j m s hj hi;exact⟨trivial,hs _ m s ⟨"a:a+'A"⟩ ⟨"a+'A<b,A+(B+1)~C,'C=b-a",hj,aH ⟨"0:a-b,b:a",GY⟩⟩ hi _ λm' s' uJ=>ih (j+1) m' s' ⟨"A+1+B~C,A+(B+1)~C;1,1;1,-1",hj⟩ ?_⟩;have:a+(j:Int)+1=a+((j+1:Nat):Int):=⟨"a+'A+1=a+'(A+1)"⟩;rw[<-this];show uJ
 intro m s hi;have:=key (b-a).toNat 0 m s ⟨"0+A~A"⟩ (by simpa using hi);unfold rE;rw[yC];show this
class inductive eJ(Y:So):List V->List (Int×Int)->Prop
 |nil:eJ Y [] []
 |cons {a i j vs l}:Y a=some (.tup [.int i,.int j])->eJ Y vs l->eJ Y (.ref a::vs) ((i,j)::l)
@[elab_as_elim] def eJ.c{Y v vs l}{P:V->List (Int×Int)->Prop}(h:eJ Y (v::vs) l)(k:∀a i j l,Y a=some (.tup [.int i,.int j])->eJ Y vs l->P (.ref a) ((i,j)::l)):P v l:=by
 cases h with | cons a b=>show k _ _ _ _ a b
def eJ.len{Y vs l}(h:eJ Y vs l):vs.length=l.length:=by
 induction h with
 |nil=>rfl
 |cons _ _ ih=>simp[ih]
def eJ.fr{Y Y' vs l}(h:eJ Y vs l)(f:∀a xs,Y a=some (.tup xs)->Y' a=some (.tup xs)):eJ Y' vs l:=by
 induction h with
 |nil=>show .nil
 |cons h _ ih=>show .cons (f _ _ h) ih
def eJ.at_{Y vs l}(h:eJ Y vs l):∀{i:Nat}{k v:Int},l[i]?=some (k,v)->∃a,vs[i]?=some (.ref a)/\Y a=some (.tup [.int k,.int v]):=by
 induction h with
 |nil=>intro i k v h;simp at h
 |cons h _ ih=>
  intro i k v e;cases i with
  |zero=>simp at e;obtain⟨rfl,rfl⟩:=e;show⟨_,rfl,h⟩
  |succ i=>show ih (by simpa using e)
def eJ.app{Y vs l fy l'}(h:eJ Y vs l)(h':eJ Y fy l'):eJ Y (vs++fy) (l++l'):=by
 induction h with
 |nil=>show h'
 |cons h _ ih=>show .cons h ih
def eJ.take{Y vs l}(h:eJ Y vs l):∀i:Nat,eJ Y (vs.take i) (l.take i):=by
 induction h with
 |nil=>intro i;simp;show .nil
 |cons h _ ih=>intro i;cases i with | zero=>show .nil | succ i=>show .cons h (ih i)
def eJ.drop{Y vs l}(h:eJ Y vs l):∀i:Nat,eJ Y (vs.drop i) (l.drop i):=by
 induction h with
 |nil=>intro i;simp;show .nil
 |cons h h' ih=>intro i;cases i with | zero=>show .cons h h' | succ i=>show ih i
inductive PL(Y:So)(p:Nat)(l:List (Int×Int)):Prop
 |mk (vs:List V) (h0:Y p=some (.lst vs)) (h1:eJ Y vs l):PL Y p l
def look:List (Int×Int)->Int->Option Int
 | [],_=>none
 |(k,v)::r,x=>if k=x then some v else look r x
def wc(l:List (Int×Int)):Prop:=(l.map (·.1)).Nodup/\∀e∈l,0<=e.1/\e.1<=2
def Et{l:List (Int×Int)}{k v:Int}(h:look l k=some v):(k,v)∈l:=by
 induction l with
 |nil=>cases h
 |cons e l ih=>
  obtain⟨a,b⟩:=e;dsimp only[look] at h;split at h
  ·rename_i q;subst q;cases h;show .head _
  ·show .tail _ (ih h)
def Eu{l:List (Int×Int)}{k v:Int}(hn:(l.map (·.1)).Nodup)(h:(k,v)∈l):look l k=some v:=by
 induction l with
 |nil=>cases h
 |cons e l ih=>
  obtain⟨a,b⟩:=e;have lL:(a::l.map (·.1)).Nodup:=hn;rw[aX] at lL;dsimp only[look];rcases az.mp h with e | h
  ·cases e;rw[if_pos rfl]
  ·rw[if_neg,ih lL.2 h];intro q;subst q;show lL.1 (aQ.mpr ⟨_,h,rfl⟩)
def GZ{l:List (Int×Int)}{k:Int}:look l k=none↔k∉l.map (·.1):=by
 induction l with
 |nil=>show iff_of_true rfl sF
 |cons e l ih=>
  obtain⟨a,b⟩:=e;dsimp only[look];by_cases q:a=k
  ·simp[q]
  ·rw[if_neg q,ih];simp[aj q]
theorem Ow:∀{b:Nat}{l:List Int},l.Nodup->(∀k∈l,0<=k/\k<(b:Int))->l.length<=b
 |0,[],_,_=>cy 0
 |0,x::_,_,h=>absurd (kj (h x (.head _)).1 (h x (.head _)).2) (iX _)
 |b+1,l,n,h=>by
  have e:=Ow (b:=b) (n.erase (b:Int)) λk hk=>by
   have hm:=(List.Nodup.mem_erase_iff n).mp hk;show⟨(h k hm.2).1,iW.mpr ⟨⟨"a:'A,a<'(A+1)",(h k hm.2).2⟩,hm.1⟩⟩
  have:=List.length_erase (a:=(b:Int)) (l:=l);split at this
  ·rw[this] at e;show Nat.le_add_of_sub_le e
  ·show Nat.le_succ_of_le (this ▸ e)
def wc.len{l:List (Int×Int)}(h:wc l):l.length<=3:=by
 have:=Ow (b:=3) h.1 λk hk=>by
  obtain⟨e,he,rfl⟩:=aQ.mp hk;show⟨(h.2 e he).1,yh (h.2 e he).2⟩
 simpa using this
def JY{n Q X Y p l}{k:Int}(h:PL Y p l)(hl:l.length<=1000)(h1:∀(i:Nat) v,l[i]?=some (k,v)->Q (.int i) Y)(h0:look l k=none->Q (.int (-1)) Y):(Wn (n+1)).call 46 [.ref p,.int k] Q X Y:=by
 obtain⟨vs,hp,ht⟩:=h;have hlen:=ht.len;exact en (fd:=RC) rfl ?_
 exists hp
 exact⟨⟨by decide,by decide,bO (by decide) (oJ _),by unfold big;show⟨"'A<'100000,B.1000,A~B",hl,hlen⟩⟩,?_⟩;exact Ov (λi m s=>s=Y/\(m=[(63,.ref p),(39,.int k)]\/∃j,m=[(63,.ref p),(39,.int k),(6,j)])/\∀(j:Nat) v,(j:Int)<i->l[j]?≠some (k,v)) 0 vs.length ⟨"0:'A"⟩ ?_ ?_ _ _ ⟨rfl,.inl rfl,λj v hj=>absurd hj (cg.mpr (oJ _))⟩
 ·rintro i m s g0 g1 ⟨rfl,hm,rO⟩ K hK;obtain⟨iN,rfl⟩:∃iN:Nat,i=iN:=⟨i.toNat,⟨"a='A,'A=a;1,-1;1,1",aH ⟨"0:a,0:a",g0⟩⟩⟩;have hi:iN<l.length:=⟨"A>B,C~B,'A<'C",hlen,g1⟩;obtain⟨a,ha,ot⟩:=ht.at_ (i:=iN) (k:=(l[iN]).1) (v:=(l[iN]).2) (by rw[aS hi]);rcases hm with rfl | ⟨j,rfl⟩
  all_goals
   exact iT hp (ve ha) ?_;exact aaa ot (x:=.int (l[iN]).1) rfl ?_;conv=>whnf
   split<;>rename_i e
   ·simp at e;show h1 iN (l[iN]).2 (by rw[aS hi,<-e])
   ·simp at e;exact hK _ _ ⟨rfl,.inr ⟨_,rfl⟩,λj v hj=>?_⟩;by_cases q:j=iN
    ·clear g0 g1 hK ha hj rO ot;subst q;rw[aS hi];intro e';injection e' with e';show e (by rw[e'])
    ·show rO j v (iW.mpr ⟨⟨"'A:'B,'A<'B+1",hj⟩,λe=>q (yr.mp e)⟩)
 ·rintro m s ⟨rfl,hm,rO⟩;have:look l k=none:=by
   cases hk:look l k with
   |none=>rfl
   |some v=>
    obtain⟨i,hi,e⟩:=gT (Et hk);show absurd (by rw[aS hi,e]) (rO i v ⟨"'A<'B,B~C,A>C;1,-1,1",hlen,hi⟩)
  rcases hm with rfl | ⟨j,rfl⟩
  ·show h0 this
  ·show h0 this
def get_{n Q X Y p l}{k:Int}(h:PL Y p l)(ho:wc l)(h1:∀v c,look l k=some v->Y c=none->Q (.ref c) (put Y c (.tup [.int v])))(h0:look l k=none->Q .none Y):(Wn (n+2)).call 52 [.ref p,.int k] Q X Y:=by
 exact en (fd:=RK) rfl ?_;exact JY h (by have:=ho.len;show⟨"A.1000,A.3",this⟩) (λi v hi=>?_) (λhn=>h0 hn);obtain⟨vs,hp,ht⟩:=h;obtain⟨a,ha,ot⟩:=ht.at_ hi;exact iT hp (ve ha) ?_;exact aaa ot (x:=.int v) rfl ?_;intro c hc;show h1 v c (Eu ho.1 (dp hi)) hc
theorem W2{n Q X Y}{i j:Int}(h:Q (.bool (decide (i=j))) Y):(Wn (n+1)).call 56 [.int i,.int j] Q X Y:=h
def W3{n Q X Y p l}{k v:Int}(h:PL Y p l)(ho:wc l)(h1:Q (.bool (decide (look l k=some v))) Y):(Wn (n+2)).call 54 [.ref p,.int k,.int v] Q X Y:=by
 exact en (fd:=RN) rfl ?_;exact JY h (by have:=ho.len;show⟨"A.1000,A.3",this⟩) (λi u hi=>?_) (λhn=>?_)
 ·obtain⟨vs,hp,ht⟩:=h;obtain⟨a,ha,ot⟩:=ht.at_ hi;exact iT hp (ve ha) ?_;exact aaa ot (x:=.int u) rfl ?_;exact W2 ?_;rw[Eu ho.1 (dp hi)] at h1
  simpa using h1
 ·rw[hn] at h1;show h1
abbrev Mp:=Int->Option Int
def upd(m:Mp)(k:Int)(v:Option Int):Mp:=λx=>if x=k then v else m x
inductive GP(Y:So)(p:Nat)(m:Mp):Prop
 |mk (l:List (Int×Int)) (h0:PL Y p l) (h1:wc l) (h2:∀k,look l k=m k):GP Y p m
def PL.fr{S Y Y' p l}(h:PL Y p l)(f:Fr S Y Y')(hp:p∉S)(hS:∀b∈S,∀xs,Y b≠some (.tup xs)):PL Y' p l:=by
 obtain⟨vs,h1,h2⟩:=h;show⟨vs,f p _ h1 hp,h2.fr λa xs ha=>f a _ ha λhm=>hS a hm xs ha⟩
theorem PL.bj{Y Y' p l}(h:PL Y p l)(f:Fr [] Y Y'):PL Y' p l:=h.fr f (by simp) (by simp)
def GP.bj{Y Y' p m}(h:GP Y p m)(f:Fr [] Y Y'):GP Y' p m:=by
 obtain⟨l,h1,h2,h3⟩:=h;show⟨l,h1.bj f,h2,h3⟩
def Ox{a:Nat}{x y:V}{K:Env->Prop}(h:Y a=some (.tup [x,y]))(hk:K (up (up m i x) j y)):jI [i,j] (.ref a) m K Y:=by
 show match Y a with
  |some (.tup xs)=>xs.length=2/\K (([i,j].zip xs).foldl (λm p=>up m p.1 p.2) m)
  |_=>False
 rw[h];show⟨rfl,hk⟩
def JZ{a k:Nat}{x y z:V}{K:Env->Prop}(h:Y a=some (.tup [x,y,z]))(hk:K (up (up (up m i x) j y) k z)):jI [i,j,k] (.ref a) m K Y:=by
 show match Y a with
  |some (.tup xs)=>xs.length=3/\K (([i,j,k].zip xs).foldl (λm p=>up m p.1 p.2) m)
  |_=>False
 rw[h];show⟨rfl,hk⟩
def J0{a k l:Nat}{x y z u:V}{K:Env->Prop}(h:Y a=some (.tup [x,y,z,u]))(hk:K (up (up (up (up m i x) j y) k z) l u)):jI [i,j,k,l] (.ref a) m K Y:=by
 show match Y a with
  |some (.tup xs)=>xs.length=4/\K (([i,j,k,l].zip xs).foldl (λm p=>up m p.1 p.2) m)
  |_=>False
 rw[h];show⟨rfl,hk⟩
def Oy(A B:List (Int×Int))(x:Int):look (A++B) x=match look A x with | some v=>some v | none=>look B x:=by
 induction A with
 |nil=>rfl
 |cons e A ih=>
  obtain⟨a,b⟩:=e;show(if a=x then some b else look (A++B) x)=match (if a=x then some b else look A x) with | some v=>some v | none=>look B x
  by_cases h:a=x
  ·simp[h]
  ·simp[h,ih]
def W4(f:Int->Bool)(l:List (Int×Int))(x:Int):look (l.filter λe=>f e.1) x=if f x then look l x else none:=by
 induction l with
 |nil=>show(ite_self (none:Option Int)).symm
 |cons e l ih=>
  obtain⟨a,b⟩:=e;by_cases h:f a=true
  ·rw[oN (p:=λe:Int×Int=>f e.1) (by show h)];show(if a=x then some b else look (l.filter λe=>f e.1) x)=if f x then (if a=x then some b else look l x) else none;rw[ih];by_cases q:a=x
   ·subst q;simp[h]
   ·simp[q]
  ·rw[oO (p:=λe:Int×Int=>f e.1) (by show h),ih];show _=if f x then (if a=x then some b else look l x) else none;by_cases q:a=x
   ·subst q;simp[h]
   ·simp[q]
theorem wc.filter{l:List (Int×Int)}(h:wc l)(f:Int×Int->Bool):wc (l.filter f):=
 ⟨h.1.sublist (yH.map _),λe he=>h.2 e (gV.mp he).1⟩
def A2{n Q X Y p m}{k v:Int}(h:GP Y p m)(h0:0<=k)(h2:k<=2)(hq:∀c Y',Y c=none->Fr [] Y Y'->GP Y' c (upd m k (some v))->Q (.ref c) Y'):(Wn (n+2)).call 27 [.ref p,.int k,.int v] Q X Y:=by
 obtain⟨l,nI,ho,fI⟩:=h;have A3:=ho.len;exact en (fd:=Rl) rfl ?_;exact JY nI ⟨"A.1000,A.3",A3⟩ (λi u hi=>?_) (λhn=>?_)
 ·obtain⟨vs,hp,ht⟩:=nI;have hlen:=ht.len;have AF:i<l.length:=by
   rcases dq i l.length with h | h
   ·show h
   ·nomatch di h,hi
  exists hp
  exact⟨⟨"0:'A"⟩,by unfold big;show⟨"A>100000,B.3,A~B",A3,hlen⟩,?_⟩;intro c1 n1;intro c2 n2;intro c3 n3;have q1:c2≠c1:=λe=>by nomatch e,au,n2
  have q2:c3≠c2:=λe=>by nomatch e,au,n3
  have q3:c3≠c1:=λe=>by nomatch e,ao (aj q1),au,n3
  exact GX (xs:=vs.take i) (ys:=[.ref c2]) (by rw[ao (aj q3),ao (aj q1)];simpa using au) au (by simp;unfold big;show⟨"A+1>100000,B.3,C>B,A.C",A3,AF,fe _ _⟩) ?_;intro c4 n4;have n0:∀b o,Y b=some o->b≠c1/\b≠c2/\b≠c3/\b≠c4:=λb o hb=>by
   have a1:b≠c1:=λe=>by nomatch e,n1,hb
   have a2:b≠c2:=λe=>by rewrite [e] at hb;nomatch ao q1,hb,n2
   have a3:b≠c3:=λe=>by rewrite [e] at hb;nomatch ao q2,ao q3,hb,n3
   exact⟨a1,a2,a3,λe=>?_⟩
   rewrite [<-e,ao a3,ao a2,ao a1,hb] at n4;cases n4
  have keep:∀b o,Y b=some o->put (put (put (put Y c1 (.lst (vs.take i))) c2 (.tup [.int k,.int v])) c3 (.lst [.ref c2])) c4 (.lst (vs.take i++[.ref c2])) b=some o:=λb o hb=>by
   obtain⟨a1,a2,a3,a4⟩:=n0 b o hb;rw[ao a4,ao a3,ao a2,ao a1];show hb
  conv=>whnf
  simp only[yl] at *;rw[keep p _ hp];conv=>whnf
  exact⟨⟨"0:'A+1"⟩,by unfold big;show⟨"A>100000,B.3,A~B",A3,hlen⟩,?_⟩;intro c5 n5;have JX:(vs.take i++[V.ref c2]).length+(vs.drop (i+1)).length<big:=by simp;unfold big;show⟨"A+1+B>100000,C.3,D~C,A.D,B.D;1,2,2,1,1",A3,hlen,mx _ _,pj _ _⟩
  have e5:((i:Int)+1).toNat=i+1:=⟨"A~B+1,'A='B+1;1,1;1,-1",aH ⟨"0:'A+1"⟩⟩;rw[e5];have q45:c4≠c5:=λe=>by rewrite [<-e,au] at n5;cases n5
  exact GX (ys:=vs.drop (i+1)) (by rw[ao q45];show au) au JX ?_;intro c6 n6;have nD:Fr [] Y (put (put (put (put (put (put Y c1 (.lst (vs.take i))) c2 (.tup [.int k,.int v])) c3 (.lst [.ref c2])) c4 (.lst (vs.take i++[.ref c2]))) c5 (.lst (vs.drop (i+1)))) c6 (.lst ((vs.take i++[.ref c2])++vs.drop (i+1)))):=λb o hb _=>by
   have h1:=keep b o hb;have a5:b≠c5:=λe=>by rewrite [e] at h1;nomatch h1,n5
   have a6:b≠c6:=λe=>by rw[e] at h1 a5;nomatch ao a5,h1,n6
   rw[ao a6,ao a5];show h1
  have Oz:c2≠c4:=λe=>by rewrite [<-e,ao (aj q2),au] at n4;cases n4
  have OB:put (put (put (put Y c1 (.lst (vs.take i))) c2 (.tup [.int k,.int v])) c3 (.lst [.ref c2])) c4 (.lst (vs.take i++[.ref c2])) c2=some (.tup [.int k,.int v]):=by
   rw[ao Oz,ao (aj q2)];show au
  have G0:c2≠c5:=λe=>by rewrite [<-e,OB] at n5;cases n5
  have OD:c2≠c6:=λe=>by rewrite [<-e,ao G0,OB] at n6;cases n6
  have oy:Y c6=none:=by
   cases hs:Y c6 with
   |none=>rfl
   |some o=>
    have h1:=keep c6 o hs;have a5:c6≠c5:=λe=>by rewrite [e] at h1;nomatch h1,n5
    nomatch ao a5,h1,n6
  exact hq c6 _ oy nD ⟨l.take i++[(k,v)]++l.drop (i+1),⟨_,au,?_⟩,?_,?_⟩
  ·have B3:=ht.fr λa xs ha=>nD a _ ha (by simp);exact((B3.take i).app (.cons ?_ .nil)).app (B3.drop (i+1));rw[ao OD,ao G0];show OB
  ·have A4:(l.take i++[(k,v)]++l.drop (i+1)).map (·.1)=l.map (·.1):=by
    have:l=l.take i++(k,u)::l.drop (i+1):=by
     have:=yz i l
     rewrite [yt AF] at this
     rewrite [aS AF] at hi
     injection hi with hi
     rewrite [hi] at this
     show this.symm
    conv=>rhs;rw[this]
    simp
   exact⟨by rw[A4];show ho.1,λe he=>?_⟩;have:e.1∈l.map (·.1):=by rw[<-A4];show aQ.mpr ⟨e,he,rfl⟩
   obtain⟨e',he',ee⟩:=aQ.mp this;rw[<-ee];show ho.2 e' he'
  ·intro x;have hl:l=l.take i++(k,u)::l.drop (i+1):=by
    have:=yz i l
    rewrite [yt AF] at this
    rewrite [aS AF] at hi
    injection hi with hi
    rewrite [hi] at this
    show this.symm
   have hx:=fI x
   rewrite [hl,Oy] at hx
   have hkA:look (l.take i) k=none:=by
    have hn:=ho.1
    rewrite [hl,fW,bQ] at hn
    rw[GZ];intro hm;show(bF.mp hn).2.2 k hm k (.head _) rfl
   rw[dR,Oy];show(match look (l.take i) x with | some v=>some v | none=>if k=x then some v else look (l.drop (i+1)) x)=if x=k then some v else m x
   rw[<-hx];by_cases q:k=x
   ·subst q;rw[hkA];simp
   ·rw[if_neg (aj q)];show _=(match look (l.take i) x with | some v=>some v | none=>if k=x then some u else look (l.drop (i+1)) x)
    rw[if_neg q,if_neg q]
 ·obtain⟨vs,hp,ht⟩:=nI;have hlen:=ht.len;intro c1 n1;intro c2 n2;have q1:c2≠c1:=λe=>by nomatch e,au,n2
  have keep:∀b o,Y b=some o->put (put Y c1 (.tup [.int k,.int v])) c2 (.lst [.ref c1]) b=some o:=λb o hb=>by
   have a1:b≠c1:=λe=>by nomatch e,n1,hb
   have a2:b≠c2:=λe=>by rewrite [<-e,ao a1,hb] at n2;cases n2
   rw[ao a2,ao a1];show hb
  exact GX (keep p _ hp) au (by simp;unfold big;show⟨"A+1>100000,B.3,A~B",A3,hlen⟩) ?_;intro c3 n3;have W5:put (put Y c1 (.tup [.int k,.int v])) c2 (.lst [.ref c1]) c1=some (.tup [.int k,.int v]):=by rw[ao (aj q1)];show au
  have nD:Fr [] Y (put (put (put Y c1 (.tup [.int k,.int v])) c2 (.lst [.ref c1])) c3 (.lst (vs++[.ref c1]))):=λb o hb _=>by
   have h1:=keep b o hb;have a5:b≠c3:=λe=>by rewrite [e] at h1;nomatch h1,n3
   rw[ao a5];show h1
  have nE:Y c3=none:=by
   cases hs:Y c3 with
   |none=>rfl
   |some o=>nomatch keep c3 o hs,n3
  exact hq c3 _ nE nD ⟨l++[(k,v)],⟨_,au,?_⟩,⟨?_,?_⟩,?_⟩
  ·exact(ht.fr λa xs ha=>nD a _ ha (by simp)).app (.cons ?_ .nil);have a:c1≠c3:=λe=>by rewrite [<-e,W5] at n3;cases n3
   rw[ao a];show W5
  ·rw[fW,bF];exact⟨ho.1,by simp,λa ha b hb e=>?_⟩;simp at hb
   rewrite [GZ] at hn
   rewrite [e,hb] at ha
   show hn ha
  ·intro e he;rcases aJ.mp he with he | he
   ·show ho.2 e he
   ·simp at he;subst he;show⟨h0,h2⟩
  ·intro x;rw[Oy,fI x];show(match m x with | some v=>some v | none=>if k=x then some v else none)=if x=k then some v else m x
   by_cases q:k=x
   ·subst q;rw[<-fI k,hn,if_pos rfl]
   ·rw[if_neg q,if_neg (aj q)];cases m x<;>rfl
set_option tactic.hygienic true
def W6{Y p l}{f:Int×Int->Bool}{step:V->Env->(Option V->So->Prop)->So->Prop}{vs:List V}(hp:Y p=some (.lst vs))(ht:eJ Y vs l)(ho:wc l)
  (hs:∀a i j K,Y a=some (.tup [.int i,.int j])->(i,j)∈l->(f (i,j)=true->K (some (.ref a)) Y)->(f (i,j)=false->K none Y)->step (.ref a) m K Y)
  (hq:∀c Y',Y c=none->Fr [] Y Y'->PL Y' c (l.filter f)->Q (.ref c) Y'):gather step (λs'=>s' p=some (.lst vs)) m (λxs s=>xs.length<big/\new (.lst xs) Q s) vs [] Y:=by
 exact AJ (λrest acc s=>s=Y/\∃l1 l2,l=l1++l2/\eJ Y rest l2/\eJ Y acc (l1.filter f)) ?_ ?_ ?_ _ _ _ ⟨rfl,[],l,rfl,ht,.nil⟩
 ·rintro _ _ _ ⟨rfl,_⟩;show hp
 ·rintro v r acc s ⟨rfl,l1,l2,e,hr,ha⟩ K hn xh;revert e;exact hr.c λa i j l2 h1 h2 e=>?_;exact hs a i j K h1 (by rw[e];simp) (λhf=>xh _ _ ⟨rfl,l1++[(i,j)],l2,by rw[e];simp,h2,?_⟩) (λhf=>hn _ ⟨rfl,l1++[(i,j)],l2,by rw[e];simp,h2,?_⟩)
  ·rw[lZ,oN hf];show ha.app (.cons h1 .nil)
  ·rw[lZ,oO (by rw[hf];decide)]
   simpa using ha
 ·rintro acc s ⟨rfl,l1,l2,e,hr,ha⟩;cases hr
  rewrite [bG] at e
  subst e;exact⟨⟨"A>100000,A~B,B.3",ha.len,(ho.filter f).len⟩,λc hc=>hq c _ hc (.new hc) ⟨_,au,ha.fr λa xs h=>?_⟩⟩;rw[ao λq=>by nomatch q,hc,h];show h
def ajR{n Q X Y p m}{k:Int}(h:GP Y p m)(hq:∀c Y',Y c=none->Fr [] Y Y'->GP Y' c (upd m k none)->Q (.ref c) Y'):(Wn (n+1)).call 51 [.ref p,.int k] Q X Y:=by
 obtain⟨l,⟨vs,hp,ht⟩,ho,fI⟩:=h;exact en (fd:=RJ) rfl ?_
 exists hp
 exact W6 (f:=λe=>!decide (e.1=k)) hp ht ho (λa i j K ha _ h1 h0=>?_) λc Y' hc f nI=>hq c Y' hc f ⟨_,nI,ho.filter _,λx=>?_⟩
 ·exact aaa ha (x:=.int i) rfl ?_;by_cases e:i=k
  ·have:=h0 (by simp[e]);clear h0 h1 hq;subst e;conv=>whnf
   rw[decide_eq_true rfl];show this
  ·have:=h1 (by simp[e]);conv=>whnf
   rw[decide_eq_false e];show this
 ·rw[W4 (λi=>!decide (i=k)),fI];unfold upd;by_cases e:x=k<;>simp[e]
def ajT{n Q X Y p m q}{ns:List Int}(h:GP Y p m)(nu:Y q=some (.lst (ns.map V.int)))(hq:∀c Y',Y c=none->Fr [] Y Y'->GP Y' c (λx=>if x∈ns then none else m x)->Q (.ref c) Y'):(Wn (n+1)).call 28 [.ref p,.ref q] Q X Y:=by
 obtain⟨l,⟨vs,hp,ht⟩,ho,fI⟩:=h;exact en (fd:=Rm) rfl ?_
 exists hp
 exact W6 (f:=λe=>!ns.contains e.1) hp ht ho (λa i j K ha _ h1 h0=>?_) λc Y' hc f nI=>hq c Y' hc f ⟨_,nI,ho.filter _,λx=>?_⟩
 ·exact aaa ha (x:=.int i) rfl ?_;have fin:∀b,b=ns.contains i->(match !b with | true=>K (some (.ref a)) Y | false=>K none Y):=λb hb=>by
   cases b with
   |true=>show h0 (by simp only[<-hb];rfl)
   |false=>show h1 (by simp only[<-hb];rfl)
  exists nu
  show⟨ns,rfl,fin _ rfl⟩
 ·rw[W4 (λi=>!ns.contains i),fI];by_cases e:x∈ns<;>simp[e]
def sub_len:∀{A B:List Int},A.Nodup->(∀x∈A,x∈B)->A.length<=B.length:=by
 intro zl;induction zl with
 |nil=>
  intro B _ _;simp
 |cons a A ih=>
  intro B hn hs
  rewrite [aX] at hn
  obtain⟨B1,B2,rfl⟩:=sj (hs a (.head _));have:=ih (B:=B1++B2) hn.2 λx hx=>by
   have:=hs x (.tail _ hx);have:x≠a:=λe=>hn.1 (e ▸ hx)
   simp_all
  simp at this ⊢;show⟨"A+1.B+(C+1),A.B+C",this⟩
def W7:∀{A B:List Int},A.Nodup->(∀x∈A,x∈B)->B.length<=A.length->∀x∈B,x∈A:=by
 intro zl;induction zl with
 |nil=>
  intro B _ _ hl x hx;have:B=[]:=eu.mp (by simpa using hl)
  nomatch this,hx
 |cons a A ih=>
  intro B hn hs hl x hx
  rewrite [aX] at hn
  obtain⟨B1,B2,rfl⟩:=sj (hs a (.head _));have:=ih (B:=B1++B2) hn.2 (λx hx=>by
   have:=hs x (.tail _ hx);have:x≠a:=λe=>hn.1 (e ▸ hx)
   simp_all) (by simp at hl ⊢;show⟨"A+B.C,A+(B+1).C+1",hl⟩) x
  by_cases e:x=a
  ·rw[e];show .head _
  ·show .tail _ (this (by simp_all))
def rS{o:Option O}{xs:List V}{p:List V->Prop}(h:o=some (.lst xs))(k:p xs):wz o p:=by subst h;show k
def W8{n Q X Y p q m1 m2}(h1:GP Y p m1)(h2:GP Y q m2)(ht:m1=m2->Q (.bool true) Y)(hf:m1≠m2->Q (.bool false) Y):(Wn (n+3)).call 59 [.ref p,.ref q] Q X Y:=by
 obtain⟨l,⟨vs,hp,hk⟩,ho,fI⟩:=h1;obtain⟨l',nI,lM,nF⟩:=h2;obtain⟨fy,wV,Jh⟩:=id nI;exact en (fd:=RV) rfl ?_;have e1:=hk.len;have e2:=Jh.len;exact rS hp (rS wV ?_);conv=>whnf
 split<;>rename_i e
 ·simp at e;exact hf λem=>e ?_;have hs:∀x,x∈l.map (·.1)↔x∈l'.map (·.1):=λx=>by
   have:=fI x
   rewrite [em,<-nF x] at this
   have a:look l x=none↔look l' x=none:=by rw[this]
   rewrite [GZ,GZ] at a
   show ye.mp a
  have a1:=sub_len ho.1 λx hx=>(hs x).mp hx;have a2:=sub_len lM.1 λx hx=>(hs x).mpr hx;simp at a1 a2;show⟨"'A='B,A~C,B~D,C.D,D.C;1,1,-1,1,0;1,-1,1,0,1",e1,e2,a1,a2⟩
 ·simp at e
  exists hp
  exact uX (λrest m s=>s=Y/\(m=[(32,.ref p),(33,.ref q)]\/∃u v,m=[(32,.ref p),(33,.ref q),(39,u),(64,v)])/\∃d r,l=d++r/\eJ Y rest r/\∀e∈d,look l' e.1=some e.2) ?_ ?_ ?_ _ _ _ ⟨rfl,.inl rfl,[],l,rfl,hk,by simp⟩
  ·rintro _ _ _ ⟨rfl,_⟩;show hp
  ·rintro v r m s ⟨rfl,hm,d,r',e',hr,hd⟩ K hK;revert e';exact hr.c λa i j r' c1 c2 e'=>?_;exact Ox c1 ?_;have eE:(i,j)∈l:=by rw[e'];simp
   rcases hm with rfl | ⟨u,v,rfl⟩
   all_goals
    exact W3 nI lM ?_;by_cases g:look l' i=some j
    ·rw[decide_eq_true g];show hK _ _ ⟨rfl,.inr ⟨_,_,rfl⟩,d++[(i,j)],r',by rw[e'];simp,c2,λe he=>by
      rcases aJ.mp he with he | he
      ·show hd e he
      ·simp at he;subst he;show g⟩
    ·rw[decide_eq_false g];exact hf λem=>g ?_;rw[nF i,<-em,<-fI i];show Eu ho.1 eE
  ·rintro m s ⟨rfl,hm,d,r',e',hr,hd⟩;cases hr
   rewrite [bG] at e'
   subst e';have:m1=m2:=by
    funext x
    rw[<-fI x,<-nF x];cases g:look l x with
    |some v=>show(hd _ (Et g)).symm
    |none=>
     cases g':look l' x with
     |none=>rfl
     |some v=>
      exfalso;have:=W7 (A:=l.map (·.1)) (B:=l'.map (·.1)) ho.1 (λx hx=>by
       obtain⟨e,he,rfl⟩:=aQ.mp hx;show aQ.mpr ⟨_,Et (hd e he),rfl⟩) (by simp;show⟨"A.B,C~B,D~A,'C='D;1,1,-1,-1",e1,e2,e⟩) x (aQ.mpr ⟨_,Et g',rfl⟩)
      rewrite [GZ] at g
      show g this
   rcases hm with rfl | ⟨u,v,rfl⟩<;>show ht this
def akL{x y:Int}{l:List Int}:y∈insI x l↔y=x\/y∈l:=by
 induction l with
 |nil=>show az
 |cons a l ih=>
  dsimp only[insI];split
  ·rw[az,ih,az];constructor
   ·rintro(h | h | h)<;>simp[h]
   ·rintro(h | h | h)<;>simp[h]
  ·simp
def W9{y:Int}{l:List Int}:y∈sortI l↔y∈l:=by
 induction l with
 |nil=>show Iff.rfl
 |cons a l ih=>dsimp only[sortI];rw[akL,ih];simp
def aks(x:Int)(l:List Int):(insI x l).length=l.length+1:=by
 induction l with
 |nil=>rfl
 |cons a l ih=>dsimp only[insI];split<;>simp[ih]
def ajq(l:List Int):(sortI l).length=l.length:=by
 induction l with
 |nil=>rfl
 |cons a l ih=>dsimp only[sortI];rw[aks,ih];rfl
def Xa{n Q X Y p q m1 m2}(h1:GP Y p m1)(h2:GP Y q m2)(hq:∀c Y' (ks:List Int),Y c=none->Fr [] Y Y'->Y' c=some (.lst (ks.map V.int))->ks.length<=6->(∀k∈ks,(0<=k/\k<=2)/\m1 k≠m2 k)->(∀k,m1 k≠m2 k->k∈ks)->Q (.ref c) Y'):(Wn (n+3)).call 43 [.ref p,.ref q] Q X Y:=by
 obtain⟨l,G3,ho,fI⟩:=h1;obtain⟨l',A5,lM,nF⟩:=h2;obtain⟨vs,hp,hk⟩:=id G3;obtain⟨fy,wV,Jh⟩:=id A5;have vf:=ho.len;have CW:=lM.len;exact en (fd:=Rz) rfl ?_;intro c0 n0;have xn:∀b o,Y b=some o->b≠c0:=λb o hb e=>by nomatch e,n0,hb
 conv=>whnf
 rw[ao (xn p _ hp),hp];have G4:∀s,(∀b,b≠c0->s b=Y b)->PL s p l/\PL s q l':=λs hs=>⟨G3.bj λb o hb _=>by rw[hs b (xn b o hb)];show hb,A5.bj λb o hb _=>by rw[hs b (xn b o hb)];show hb⟩;exact uX (λrest m s=>(m=[(32,.ref p),(33,.ref q),(36,.ref c0)]\/∃u v,m=[(32,.ref p),(33,.ref q),(36,.ref c0),(39,u),(64,v)])/\(∀b,b≠c0->s b=Y b)/\∃(d r:List (Int×Int)) (ks:List Int),l=d++r/\eJ Y rest r/\s c0=some (.lst (ks.map V.int))/\ks.length<=d.length/\(∀k∈ks,(0<=k/\k<=2)/\m1 k≠m2 k)/\∀e∈d,m1 e.1≠m2 e.1->e.1∈ks) ?_ ?_ ?_ _ _ _ ⟨.inl rfl,λb hb=>ao hb,[],l,[],rfl,hk,au,by simp,by simp,by simp⟩
 ·rintro _ _ s ⟨_,hs,_⟩;rw[hs p (xn p _ hp)];show hp
 ·rintro v r m s ⟨hm,hs,d,r',ks,e',hr,ri,vg,vh,hd⟩ K hK;revert e';exact hr.c λa i j r' c1 c2 e'=>?_;have eE:(i,j)∈l:=by rw[e'];simp
  have J1:m1 i=some j:=by rw[<-fI i];show Eu ho.1 eE
  exact Ox (by rw[hs a (xn a _ c1)];show c1) ?_;rcases hm with rfl | ⟨u,v,rfl⟩
  all_goals
   exact W3 (G4 s hs).2 lM ?_;by_cases g:look l' i=some j
   ·rw[decide_eq_true g];show hK _ _ ⟨.inr ⟨_,_,rfl⟩,hs,d++[(i,j)],r',ks,by rw[e'];simp,c2,ri,by simp;show⟨"A.B+1,A.B",vg⟩,vh,λe he aU=>by
     rcases aJ.mp he with he | he
     ·show hd e he aU
     ·simp at he;subst he;show absurd (by rw[J1,<-nF i,g]) aU⟩
   ·rw[decide_eq_false g]
    exists ri
    exists ri
    exact⟨(by simp;have:=congrArg dS e';simp at this;unfold big;show⟨"A>100000,B.3,A.C,B~C+(D+1);1,1,1,-1",vf,vg,this⟩),?_⟩;exact hK _ _ ⟨.inr ⟨_,_,rfl⟩,λb hb=>(ao hb).trans (hs b hb),d++[(i,j)],r',ks++[i],by rw[e'];simp,c2,by rw[fW];show au,by simp;show⟨"A.B,A.B",vg⟩,λk hk=>?_,λe he aU=>?_⟩
    ·rcases aJ.mp hk with hk | hk
     ·show vh k hk
     ·simp at hk;clear c1 e';subst hk;show⟨ho.2 _ eE,λee=>g (by rw[nF k,<-ee,J1])⟩
    ·rcases aJ.mp he with he | he
     ·show cj _ (hd e he aU)
     ·simp at he;clear aU;subst he;simp
 ·rintro m s ⟨hm,hs,d,r',ks,e',hr,ri,vg,vh,hd⟩;cases hr
  rewrite [bG] at e'
  subst e';have main:∀m,(∃t,m=[(32,.ref p),(33,.ref q),(36,.ref c0)]++t/\(t=[]\/∃u v,t=[(39,u),(64,v)]))->wSs (Wn (n+2)) [.cD [39,64] (.v 33) [.iff (.cmp .lt (.call 46 [(.v 32),(.v 39)]) (.cI 0)) [.ex (.lm .append (.v 36) [(.v 39)])] []],.ret (.bi .sorted [(.v 36)])] m (qN Q) Q X s:=by
   rintro m ⟨t,rfl,ht⟩;conv=>whnf
   rw[hs q (xn q _ wV),wV];exact uX (λrest m s=>(∃t,m=[(32,.ref p),(33,.ref q),(36,.ref c0)]++t/\(t=[]\/∃u v,t=[(39,u),(64,v)]))/\(∀b,b≠c0->s b=Y b)/\∃(d2 r:List (Int×Int)) (vi:List Int),l'=d2++r/\eJ Y rest r/\s c0=some (.lst ((ks++vi).map V.int))/\vi.length<=d2.length/\(∀k∈vi,(0<=k/\k<=2)/\m1 k≠m2 k)/\∀e∈d2,m1 e.1=none->e.1∈vi) ?_ ?_ ?_ _ _ _ ⟨⟨t,rfl,ht⟩,hs,[],l',[],rfl,Jh,by simpa using ri,by simp,by simp,by simp⟩
   ·rintro _ _ s ⟨_,hs,_⟩;rw[hs q (xn q _ wV)];show wV
   ·rintro v r m s ⟨hm,hs,d2,r',vi,e',hr,ri,rj,xo,hd2⟩ K hK;revert e';exact hr.c λa i j r' c1 c2 e'=>?_;have eE:(i,j)∈l':=by rw[e'];simp
    have Ji:m2 i=some j:=by rw[<-nF i];show Eu lM.1 eE
    exact Ox (by rw[hs a (xn a _ c1)];show c1) ?_;obtain⟨t,rfl,ht⟩:=hm;rcases ht with rfl | ⟨u,v,rfl⟩
    all_goals
     exact JY (G4 s hs).1 ⟨"A.1000,A.3",vf⟩ (λiN u hi=>?_) (λhn=>?_)
     ·have J1:m1 i=some u:=by rw[<-fI i];show Eu ho.1 (dp hi)
      show hK _ _ ⟨⟨_,rfl,.inr ⟨_,_,rfl⟩⟩,hs,d2++[(i,j)],r',vi,by rw[e'];simp,c2,ri,by simp;show⟨"A.B+1,A.B",rj⟩,xo,λe he aU=>by
       rcases aJ.mp he with he | he
       ·show hd2 e he aU
       ·simp at he;subst he
        nomatch J1,aU⟩
     ·exists ri
      exists ri
      exact⟨(by simp;have:=congrArg dS e';simp at this;unfold big;show⟨"A+B>100000,C.3,D.3,A.C,B.E,D~E+(F+1);1,1,1,1,1,-1",vf,CW,vg,rj,this⟩),?_⟩;exact hK _ _ ⟨⟨_,rfl,.inr ⟨_,_,rfl⟩⟩,λb hb=>(ao hb).trans (hs b hb),d2++[(i,j)],r',vi++[i],by rw[e'];simp,c2,by rw[<-dR,fW (l₁:=ks++vi)];show au,by simp;show⟨"A.B,A.B",rj⟩,λk hk=>?_,λe he aU=>?_⟩
      ·rcases aJ.mp hk with hk | hk
       ·show xo k hk
       ·simp at hk;clear c1 e';subst hk;show⟨lM.2 _ eE,λee=>by rewrite [<-fI k,hn,Ji] at ee;cases ee⟩
      ·rcases aJ.mp he with he | he
       ·show cj _ (hd2 e he aU)
       ·simp at he;clear aU;subst he;simp
   ·rintro m s ⟨hm,hs,d2,r',vi,e',hr,ri,rj,xo,hd2⟩;cases hr
    rewrite [bG] at e'
    subst e';have fin:bi .sorted [.ref c0] Q s:=by
     exact vN ri ?_;exact .inl ⟨ks++vi,rfl,by simp;show⟨"A+B>64,C.3,D.3,A.C,B.D",vf,CW,vg,rj⟩,λc hc=>?_⟩;have lO:Y c=none:=by
      by_cases e:c=c0
      ·rw[e];show n0
      ·rw[<-hs c e];show hc
     exact hq c _ (sortI (ks++vi)) lO (λb o hb _=>?_) au (by rw[ajq];simp;show⟨"A+B.6,C.3,D.3,A.C,B.D",vf,CW,vg,rj⟩) (λk hk=>?_) λk hk=>?_
     ·rw[ao (λe=>by nomatch e,lO,hb),hs b (xn b o hb)];show hb
     ·rewrite [W9] at hk
      rcases aJ.mp hk with hk | hk
      ·show vh k hk
      ·show xo k hk
     ·rw[W9];cases g:m1 k with
      |some v=>
       have:=fI k
       rewrite [g] at this
       show cj _ (hd _ (Et this) hk)
      |none=>
       cases g':m2 k with
       |none=>rewrite [g,g'] at hk;show absurd rfl hk
       |some v=>
        have:=nF k
        rewrite [g'] at this
        show cQ _ (hd2 _ (Et this) g)
    obtain⟨t,rfl,ht⟩:=hm;rcases ht with rfl | ⟨u,v,rfl⟩<;>show fin
  rcases hm with rfl | ⟨u,v,rfl⟩
  ·show main _ ⟨[],rfl,.inl rfl⟩
  ·show main _ ⟨_,rfl,.inr ⟨_,_,rfl⟩⟩
set_option tactic.hygienic false
def Tree.G5{Y tr A B x n p}(h:Tree Y tr (A++(x,n,p)::B)):∃t l r q,Y x=some (nO t p l r q):=by
 obtain⟨l,r,t,k,z,_⟩:=h.at_;show⟨_,_,_,_,z.tt.1⟩
def Tree.rt{Y tr sq}(h:Tree Y tr sq):∃v,Y tr=some (lN v):=by
 obtain⟨t,z,_⟩:=h;show⟨_,z.rr⟩
def akd{k Q X Y tr A B x n p}{m:Int}(h:Tree Y tr (A++(x,n,p)::B))(hm:0<n+m)(hq:∀Y',Tree Y' tr (A++(x,n+m,p)::B)->cK tr Y Y'->Q .none Y'):(Wn (k+1)).call 63 [.ref x,.int m] Q X Y:=by
 have bK:=h.pos;obtain⟨l,r,t,k,z,em,eA,eB⟩:=h.at_;exact JC (k:=.L x t p r::k) z.oq.cc (bF.mp z.oq.nd).2.1 λY1 c1 o1=>?_;have z1:=z.oq.fJ c1 o1;have z2:Z Y1 tr (.nd x l r (t+m) p) (fJ m k):=Z.CD z1;have wW:cP (.nd x l r (t+m) p) (fJ m k)=A++(x,n+m,p)::B:=by
  rw[En,JL,JM,em,eA,eB];have:t+m-l.ay-r.ay=t-l.ay-r.ay+m:=⟨"a+b-c-d=a-c-d+b"⟩;rw[this]
 exact hq Y1 (wW ▸ .GQ z2 (by
  rw[wW];intro e he;rcases aJ.mp he with he | he
  ·show bK e (cj _ he)
  ·rcases az.mp he with he | he
   ·rw[he];show hm
   ·show bK e (cQ _ (.tail _ he)))) (cK.bw z.oq o1)
def agW{k Q X Y tr A B x n p}(h:Tree Y tr (A++(x,n,p)::B))(hlen:(A++(x,n,p)::B).length<=900)(hq:∀Y',Tree Y' tr (A++(x,n,p)::B)->cK tr Y Y'->Q .none Y'):(Wn (k+4)).call 67 [.ref tr,.ref x] Q X Y:=by
 have bK:=h.pos;obtain⟨l,r,t,k,z,em,eA,eB⟩:=h.at_;have e:cP l (.L x t p r::k)=A++(x,n,p)::B:=by rw[N6,En,em,eA,eB]
 exact Og (k:=.L x t p r::k) z.oq (by rw[e];show bK) (by rw[e];show⟨"A.1000,A.900",hlen⟩) λY' t' f'=>?_;rw[e] at t' f';show hq Y' t' (h.j8 f')
def ef(ra:Nat)(Y:So)(p:Nat)(m:Mp):Prop:=p≠ra/\GP Y p m
def ef.j8{ra tr Y Y' p m v}(h:ef ra Y p m)(f:cK tr Y Y')(ht:Y tr=some (lN v)):ef ra Y' p m:=by
 obtain⟨h0,l,⟨vs,h1,h2⟩,h3,h4⟩:=h;exact⟨h0,l,⟨vs,f p _ h1 (λe=>by nomatch e,ht,h1) (λfs e=>by cases e),h2.fr λa xs ha=>f a _ ha (λe=>by nomatch e,ht,ha) λfs e=>by cases e⟩,h3,h4⟩
def jO(P:Nat->Nat->Prop)(j:Nat)(cs:List Nat):Prop:=∀i p,cs[i]?=some p->P (j+i) p
def jO.app{P j a b}:jO P j (a++b)↔jO P j a/\jO P (j+a.length) b:=by
 constructor
 ·intro h;exact⟨λi p e=>h i p ?_,λi p e=>?_⟩
  ·have:i<a.length:=by
    rcases dq i a.length with q | q
    ·show q
    ·nomatch di q,e
   rw[eY this];show e
  ·have:=h (a.length+i) p (by rw[fS (by show⟨"A.A+B"⟩)];simpa using e)
   rwa [<-zb] at this
 ·rintro⟨h1,h2⟩ i p e;rcases dq i a.length with q | q
  ·rw[eY q] at e;show h1 i p e
  ·rw[fS q] at e;have:=h2 _ p e
   rwa [zb,sH q] at this
def jO.rep{P j n p}:jO P j (bH n p)↔∀i,j<=i->i<j+n->P i p:=by
 constructor
 ·intro h i h1 h2;have:=h (i-j) p (by rw[oP,if_pos (Nat.sub_lt_left_of_lt_add h1 h2)])
  rwa [sH h1] at this
 ·intro h i q e;rw[oP] at e;split at e
  ·rename_i g;cases e;show h _ ⟨"A.A+B"⟩ (Nat.add_lt_add_left g j)
  ·cases e
inductive Tx(ra:Nat)(Y:So)(tr:Nat)(N:Int)(M:Nat->Mp):Prop
 |mk (sq:List Nd) (h0:Tree Y tr sq) (h1:sQ sq=N) (h2:jO (λi p=>ef ra Y p (M i)) 0 (eI sq)):Tx ra Y tr N M
def Tx.ex{ra Y tr N M}(h:Tx ra Y tr N M):∃sq,Tree Y tr sq/\sQ sq=N/\jO (λi p=>ef ra Y p (M i)) 0 (eI sq):=by
 obtain⟨sq,a,b,c⟩:=h;show⟨sq,a,b,c⟩
def Tx.j8{ra Y Y' tr sq}{N:Int}(h:Tree Y tr sq)(hp:jO (λi p=>ef ra Y p (M i)) 0 (eI sq))(f:cK tr Y Y'):jO (λi p=>ef ra Y' p (M i)) 0 (eI sq):=by
 obtain⟨v,hv⟩:=h.rt;show λi p e=>(hp i p e).j8 f hv
def Ew{P:Nat->Nat->Prop}{A B:List Nd}{x p:Nat}{m:Int}(hA:∀e∈A,0<e.2.1)(hm:0<m):jO P 0 (eI (A++(x,m,p)::B))↔jO P 0 (eI A)/\(∀i:Nat,sQ A<=i->(i:Int)<sQ A+m->P i p)/\jO P (sQ A+m).toNat (eI B):=by
 have h1:=wa hA;rw[JS,Er,jO.app,jO.app,jO.rep,oQ];have e:0+(eI A).length+m.toNat=(sQ A+m).toNat:=⟨"0+A+B~C,'A=a,'B=b,'C=a+b;1,1,1,-1;1,-1,-1,1",h1,aH ⟨"0:a,0<a",hm⟩,aH ⟨"0:a+b,0<b,'A=a",hm,h1⟩⟩;rw[e];exact and_congr Iff.rfl (and_congr ⟨λh i h1 h2=>h i ⟨"0+A.B,0+A+C~D,a:'B,'C=b,'D=a+b;1,1,1,-1,1",e,h1,aH ⟨"0:a,0<a",hm⟩,aH ⟨"0:a+b,'A<a+b",h2⟩⟩ ⟨"A>B,'A<a+b,'B=a+b;1,1,-1",h2,aH ⟨"0:a+b,'A<a+b",h2⟩⟩,λh i k1 k2=>h i ⟨"a:'B,0+A.B,'A=a;1,1,-1",k1,h1⟩ (Int.lt_toNat.mp k2)⟩ Iff.rfl)
def amR{A:List Nd}(h:A≠[]):∃A' y k q,A=A'++[(y,k,q)]/\rg A=.ref y:=by
 rcases yB A with e | ⟨A',x,e⟩
 ·show absurd e h
 ·exact⟨A',x.1,x.2.1,x.2.2,by rw[e];simp,?_⟩;rw[e];simp[rg,ou]
abbrev rP(tr:Nat):O:=.inst 3 [(58,.ref tr)]
theorem rQ{n}{a tr}{K:V->Prop}(h:Y a=some (rP tr))(hk:K (.ref tr)):vK (Wn n).fw (.ref a) 58 K Y:=bh h hk rfl rfl
def cK.tp{tr Y Y' tp}(f:cK tr Y Y')(h:Y tp=some (rP tr))(ht:∃v,Y tr=some (lN v)):Y' tp=some (rP tr):=by
 obtain⟨v,ht⟩:=ht;show f tp _ h (λe=>by nomatch e,ht,h) λfs e=>by cases e
def Xb{n Q X ra Y tp tr N M}{at_:Int}(h:Tx ra Y tr N M)(hN:N<=900)(jA:Y tp=some (rP tr))(hq:∀Y',Tx ra Y' tr N M->cK tr Y Y'->Q .none Y'):(Wn (n+6)).call 62 [.ref tp,.int at_] Q X Y:=by
 have h0:=h;obtain⟨sq,ht,hs,hc⟩:=h;have hlen:=xj ht.pos;exact en (fd:=RZ) rfl ?_;conv=>whnf
 split<;>rename_i e
 ·simp only[decide_eq_true_eq] at e;exact rQ jA ?_;exact text_len ht ?_;conv=>whnf
  split<;>rename_i e2
  ·show hq Y h0 .refl
  ·simp at e2;exact rQ jA ?_;exact Ep ht ⟨"0:a,0<a",e⟩ e2 λc A x m p B lO nK g1 g2=>?_;have hd:Tree (put Y c (.tup [.ref x,.int (sQ A)])) tr sq:=ht.put λcl fs=>by rw[lO];simp
   have iJ:cK tr Y (put Y c (.tup [.ref x,.int (sQ A)])):=.new lO;have jB:=Tx.j8 (N:=N) ht hc iJ;have iK:=iJ.tp jA ht.rt;subst nK
   exists au
   exact⟨rfl,?_⟩;conv=>whnf
   split<;>rename_i e3
   ·simp at e3;show hq _ ⟨_,hd,hs,jB⟩ iJ
   ·simp at e3;have hA:A≠[]:=λe=>by clear e2 iJ g2 jB hc hd hlen hs ht iK;subst e;have:(0:Int)=at_:=e3;show⟨"_,0<a,0=a;0,1,-1",e,this⟩
    have bK:=hd.pos;exact aii hd ?_;clear e2 hc;obtain⟨A',y,k,q,rfl,JV⟩:=amR hA;rw[JV];have gw:Tree (put Y c (.tup [.ref x,.int (sQ (A'++[(y,k,q)]))])) tr (A'++(y,k,q)::(x,m,p)::B):=by simpa using hd
    obtain⟨_,_,_,_,ny⟩:=gw.G5;obtain⟨_,_,_,_,nx⟩:=hd.G5;have pA:∀e∈A',0<e.2.1:=λe he=>bK e (by simp[he]);have pk:0<k:=bK (y,k,q) (by simp);have pm:0<m:=bK (x,m,p) (by simp);have pA2:∀e∈A'++[(y,k,q)],0<e.2.1:=λe he=>bK e (cj _ he);have sA:sQ (A'++[(y,k,q)])=sQ A'+k:=by rw[gL,nC];show _+(k+0)=_;show⟨"a+(b+0)=a+b"⟩
    have Ex:=AY pA;obtain⟨a1,a2,a3⟩:=(Ew pA2 pm).mp jB;obtain⟨b1,b2,b3⟩:=(Ew (B:=[]) pA pk).mp a1;exact Ee ny ?_;exact Ee nx ?_;have gq:=b2 (sQ A').toNat ⟨"a:'A,'A=a;1,-1",aH ⟨"0:a,0:a",Ex⟩⟩ ⟨"'A<a+b,0<b,'A=a",pk,aH ⟨"0:a,0:a",Ex⟩⟩;have gp:=a2 (sQ (A'++[(y,k,q)])).toNat ⟨"a:'A,'A=a;1,-1",aH ⟨"0:a,0<b,a=b;1,1,-1",e,e3⟩⟩ ⟨"'A<a+b,c<a+b,a=c,'A=a",g2,e3,aH ⟨"0:a,0<b,a=b;1,1,-1",e,e3⟩⟩;exact W8 gq.2 gp.2 (λem=>?_) (λ_=>?_)
    ·exact GR hd ?_;exact rQ iK ?_;exact drop hd ⟨"A.900,a:900,b=a,'A:b",hN,hs,hlen⟩ λY2 t2 f2=>?_;have G6:Tree Y2 tr (A'++(y,k,q)::B):=by simpa using t2
     exact akd G6 (m:=m) ⟨"0<a+b,c<d+b,d=c,0<a",g2,e3,pk⟩ λY3 t3 f3=>?_;have OG:=f3.tp (f2.tp iK hd.rt) t2.rt;exact rQ OG ?_;have A3:=xj t3.pos;have xq:sQ (A'++(y,k+m,q)::B)=N:=by
      rw[<-hs,gL,gL,gL,nC,nC,nC];show sQ A'+(k+m+sQ B)=sQ A'+(k+0)+(m+sQ B);show⟨"a+(b+c+d)=a+(b+0)+(c+d)"⟩
     exact agW t3 ⟨"A.900,a:900,'A:b,b=a",hN,A3,xq⟩ λY4 t4 f4=>?_;have fall:=(((iJ.trans f2).trans f3).trans f4);exact hq Y4 ⟨_,t4,xq,?_⟩ fall;obtain⟨v,hv⟩:=ht.rt;have xr:=((f2.trans f3).trans f4);obtain⟨v1,qU⟩:=hd.rt;exact(Ew pA ⟨"0<a+b,c<d+b,d=c,0<a",g2,e3,pk⟩).mpr ⟨λi p e=>(b1 i p e).j8 xr qU,λi Ey g2'=>?_,?_⟩
     ·rcases Int.lt_or_le (i:Int) (sQ A'+k) with g | g
      ·show(b2 i Ey g).j8 xr qU
      ·
       have hpi:=a2 i ⟨"a:'A,a=b+c,b+c:'A",sA,g⟩ ⟨"'A<a+b,a=c+d,'A<c+(d+b);1,-1,1",sA,g2'⟩;obtain⟨lp,OI,OJ,G7⟩:=hpi.2;obtain⟨Xc,G8,G9,A6⟩:=gp.2;have:M i=M (sQ A').toNat:=by
        rw[em];obtain⟨vs,w1,w2⟩:=OI;obtain⟨fy,w1',Xd⟩:=G8
        nomatch w1,w1'
        have:lp=Xc:=by
         clear OJ G7 G9 A6 w1;induction w2 generalizing Xc with
         |nil=>cases Xd;rfl
         |cons u1 u2 ih=>
          cases Xd with
          |cons OL OO=>
           nomatch u1,OL
           rw[ih _ OO]
        funext z
        rw[<-G7 z,<-A6 z,this]
       rw[this];show gq.j8 xr qU
     ·have:(sQ A'+(k+m)).toNat=(sQ (A'++[(y,k,q)])+m).toNat:=by rw[sA];congr 1;show⟨"a+(b+c)=a+b+c"⟩
      rw[this];show λi p e=>(a3 i p e).j8 xr qU
    ·show hq _ ⟨_,hd,hs,jB⟩ iJ
 ·show hq Y h0 .refl
abbrev J2(tp:Nat)(b e at_:Int)(ex:Env):Env:=(27,.ref tp)::(86,.int b)::(62,.int e)::(6,.int at_)::ex
def ahH{n Q X ra Y tp tr N M}{e:Int}(h:Tx ra Y tr N M)(hN:N<=900)(hb:0<=b)(jA:Y tp=some (rP tr))(hq:∀Y',Tx ra Y' tr N M->cK tr Y Y'->Q .none Y'):(Wn (n+7)).call 60 [.ref tp,.int b,.int e] Q X Y:=by
 exact en (fd:=RW) rfl ?_;intro P hP;have key:∀(d:Nat) (Y1:So) (at_:Int) (ex:Env),(N-at_).toNat<=d->0<=at_->Tx ra Y1 tr N M->cK tr Y Y1->Suf [93,98,87] ex->P (J2 tp b e at_ ex) Y1:=by
  intro d;induction d using y9 with
  |ind d ih=>
   intro Y1 at_ ex hd h0 h1 f1 hx;have u6:∃v,Y tr=some (lN v):=h.ex.choose_spec.1.rt;have iK:=f1.tp jA u6;obtain⟨sq,qY,jX,iH⟩:=id h1;have o:wSs (Wn (n+6)) [.ex (.call 62 [.v 27,.v 62])] (J2 tp b e at_ ex) (qN Q) Q X Y1:=by
    exact Xb h1 hN iK λY2 h2 f2=>?_;show hq Y2 h2 (f1.trans f2)
   exact hP _ _ ?_;conv=>whnf
   split<;>rename_i g
   ·exact rQ iK ?_;exact text_len qY ?_;conv=>whnf
    split<;>rename_i g2
    ·simp at g2;exact rQ iK ?_;exact Ep qY h0 g2 λc A x m p B lO nK q1 q2=>?_;have w0:Tree (put Y1 c (.tup [.ref x,.int (sQ A)])) tr sq:=qY.put λcl fs=>by rw[lO];simp
     have iJ:cK tr Y1 (put Y1 c (.tup [.ref x,.int (sQ A)])):=.new lO;have jB:=Tx.j8 (N:=N) qY iH iJ;have CX:=iJ.tp iK qY.rt;obtain⟨e1,h3,u1⟩:=hx.up;obtain⟨e2,h4,u2⟩:=h3.up
     exists au
     exact⟨rfl,?_⟩;show wSs (Wn (n+6)) _ (J2 tp b e at_ (Tactic.up (Tactic.up ex 93 (.ref x)) 98 (.int (sQ A)))) P Q bW _;rw[u1,Cy (by rfl),u2]
     rewrite [nK] at w0
     exact GR w0 ?_
     rewrite [<-nK] at w0
     show wSs (Wn (n+6)) _ (J2 tp b e at_ ((93,.ref x)::(98,.int (sQ A))::Tactic.up e2 87 (.int (sQ A+m)))) P Q bW _;rw[h4.up1];exact Xb (n:=n) ⟨sq,w0,jX,jB⟩ hN CX λY2 h2 f2=>?_;show ih (N-(sQ A+m)).toNat (Nat.lt_of_lt_of_le ((Int.toNat_lt_toNat ⟨"0<a-b,b<c,c=a",g2,jX⟩).mpr ⟨"a-(b+c)<a-d,d<b+c",q2⟩) hd) Y2 (sQ A+m) _ (cy _) ⟨"0:a+b,0:c,c<a+b",h0,q2⟩ h2 ((f1.trans iJ).trans f2) ⟨[_,_,_],rfl⟩
    ·show o
   ·show o
 show key _ Y b [] (cy _) hb h .refl (.none _)
def ajE{A0 D0 A B:List Nd}{x p:Nat}{m:Int}(h:A0++D0=A++(x,m,p)::B)(hp:∀e∈A0++D0,0<e.2.1)(h0:sQ A0=b)(h1:sQ A<=b)(h2:b<sQ A+m):A0=A:=by
 rcases sf.mp h with⟨u,hu,hv⟩ | ⟨u,hu,hv⟩
 ·have Ha:∀e∈u,0<e.2.1:=λe he=>hp e (by rw[hv];simp[he]);have:=xj Ha
  rewrite [hu,gL] at h1
  have:u=[]:=eu.mp ⟨"A~0,a=b,a+c:b,'A:c;1,-1,1,1;1,0,0,0",h0,h1,this⟩;rw[hu,this];simp
 ·cases u with
  |nil=>simpa using hu
  |cons y u=>
   exfalso;injection hv with qU Av;subst qU;have Ha:∀e∈u,0<e.2.1:=λe he=>hp e (by rw[hu];simp[he]);have:=AY Ha
   rewrite [hu,gL,nC] at h0
   have h0':sQ A+(m+sQ u)=b:=h0;show⟨"_,a<b+c,b+(c+d)=a,0:d;0,1,1,1",h2,h0,this⟩
def agP{n Q X Y tp tr sq}{e:Int}(h:Tree Y tr sq)(hN:sQ sq<=800)(h0:0<=b)(h1:b<e)(h2:e<=sQ sq)(jA:Y tp=some (rP tr))
  (hq:∀c Y' A C D,Tree Y' tr (A++C++D)->eI (A++C++D)=eI sq->sQ A=b->sQ C=e-b->Y' c=some (.lst (C.map λe=>.ref e.1))->cK tr Y Y'->Q (.ref c) Y'):(Wn (n+7)).call 58 [.ref tp,.int b,.int e] Q X Y:=by
 have hlen:=xj h.pos;exact en (fd:=RT) rfl ?_;conv=>whnf
 split<;>rename_i g
 ·simp at g;show absurd h1 (cg.mpr g)
 ·exact rQ jA ?_;exact WV h ⟨"A.900,a:800,'A:a",hN,hlen⟩ λY1 qu t1 f1 OQ iJ=>?_;have iK:=iJ.tp jA h.rt;have s1:sQ qu=sQ sq:=by rw[<-wa t1.pos,<-wa h.pos,f1.1]
  have l1:=xj t1.pos;exact rQ iK ?_;exact WV t1 ⟨"A.900,a:800,b=a,'A:b",hN,s1,l1⟩ λY2 Hb t2 f2 OS qt=>?_;have CX:=qt.tp iK t1.rt;have s2:sQ Hb=sQ sq:=by rw[<-wa t2.pos,<-s1,<-wa t1.pos,f2.1]
  have l2:=xj t2.pos;obtain⟨A0,D0,e0,eo⟩:=f2.2 b (OQ h0 ⟨"a:b,a<c,c:b",h1,h2⟩);obtain⟨E1,E2,e1,jX⟩:=OS ⟨"0:a,0:b,b<a",h0,h1⟩ ⟨"a:b,a:c,b=c;1,1,-1",h2,s1⟩;exact rQ CX ?_;exact Ep t2 h0 ⟨"a<b,a<c,c:d,b=d;1,1,1,-1",h1,h2,s2⟩ λc A x m p B lO nK q1 q2=>?_;have xv:=t2.pos;have eA:A0=A:=ajE (by rw[<-e0,<-nK]) (by rw[<-e0];show xv) eo q1 q2;subst eA;have J3:cK tr Y2 (put Y2 c (.tup [.ref x,.int (sQ A0)])):=.new lO;have t3:Tree (put Y2 c (.tup [.ref x,.int (sQ A0)])) tr Hb:=t2.put λcl fs=>by rw[lO];simp
  obtain⟨C0,hE,hB⟩:∃C0,E1=A0++C0/\(x,m,p)::B=C0++E2:=by
   rcases sf.mp (show A0++(x,m,p)::B=E1++E2 by rw[<-nK,e1]) with⟨u,hu,hv⟩ | ⟨u,hu,hv⟩
   ·show⟨u,hu,hv⟩
   ·exfalso;have Ha:∀e∈u,0<e.2.1:=λe he=>xv e (by rw[nK,hu];simp[he]);have:=AY Ha
    rewrite [hu,gL] at eo
    show⟨"_,a<b,c=b,c+d=a,0:d;0,1,-1,1,1",h1,jX,eo,this⟩
  have J4:sQ C0=e-b:=by rewrite [hE,gL] at jX;show⟨"a=b-c,d=c,d+a=b;1,-1,1;1,1,-1",eo,jX⟩
  exact aaa au (x:=.ref x) rfl ?_;intro cc jK;have CY:Hb=A0++C0++E2:=by rw[e1,hE]
  have hhd:V.ref x=ou (C0++E2):=by rw[<-hB];rfl
  intro P hP;have t4:=t3.put (c:=cc) (o:=.lst []) λcl fs=>by rw[jK];simp
  have key:∀(R C:List Nd) (s:So) ,C0=C++R->Tree s tr Hb->s cc=some (.lst (C.map λe=>.ref e.1))->cK tr Y s->P [(27,.ref tp),(86,.int b),(62,.int e),(93,ou (R++E2)),(36,.ref cc),(95,.int (sQ R))] s:=by
   intro R;induction R with
   |nil=>
    intro C s eC ts hs fs;exact hP _ _ ?_
    rewrite [bG] at eC
    subst eC
    rewrite [CY] at ts
    show hq cc s A0 C0 E2 ts (by rw[<-CY,f2.1,f1.1]) eo J4 hs fs
   |cons y R ih=>
    intro C s eC ts hs fs;obtain⟨y,k,q⟩:=y;have vj:Hb=(A0++C)++(y,k,q)::(R++E2):=by rw[CY,eC];simp
    have pk:0<k:=xv (y,k,q) (by rw[vj];simp);have pR:=AY (l:=R) λe he=>xv e (by rw[vj];simp[he]);have iR:C.length<=800:=by have:=congrArg dS vj;simp at this;show⟨"A.800,a:800,b=a,'B:b,B~C+(A+(D+E+1));1,1,1,1,-1",hN,s2,l2,this⟩
    exact hP _ _ ?_;have xq:sQ ((y,k,q)::R)=k+sQ R:=nC _ _;rw[xq];conv=>whnf
    split<;>rename_i g
    ·exists hs
     exists hs
     exact⟨by simp;unfold big;show⟨"A>100000,A.800",iR⟩,?_⟩;have Ez:Tree (put s cc (.lst (C.map (λe=>V.ref e.1)++[.ref y]))) tr ((A0++C)++(y,k,q)::(R++E2)):=by
      rw[<-vj];show ts.put λcl fs=>by rw[hs];simp
     exact GR Ez ?_;exact following Ez ?_;have ek:k+sQ R-k=sQ R:=⟨"a+b-a=b"⟩;show P [(27,.ref tp),(86,.int b),(62,.int e),(93,ou (R++E2)),(36,.ref cc),(95,.int (k+sQ R-k))] _;rw[ek]
     rewrite [<-vj] at Ez
     exact ih (C++[(y,k,q)]) _ (by rw[eC];simp) Ez (by rw[fW];show au) (λb o hb n i=>?_);rw[ao λe=>by
      have:=((iJ.trans qt).trans J3) b o hb n i
      nomatch e,jK,this]
     show fs b o hb n i
    ·simp at g;show fO ⟨"_,0<a,0:b,a+b:0",pk,pR,g⟩
  show P [(27,.ref tp),(86,.int b),(62,.int e),(93,.ref x),(36,.ref cc),(95,.int (e-b))] _;have k0:=key C0 [] _ rfl t4 au (((iJ.trans qt).trans J3).trans (.new jK))
  rewrite [<-hhd,J4] at k0
  show k0
set_option tactic.hygienic true
def Tree.ap0{Y tr A B x n p}(h:Tree Y tr (A++(x,n,p)::B))(p':Nat):∃t l r q,Y x=some (nO t p l r q)/\Tree (Tactic.put Y x (nO t p' l r q)) tr (A++(x,n,p')::B):=by
 have bK:=h.pos;obtain⟨l,r,t,k,z,em,eA,eB⟩:=h.at_;obtain⟨x1,x2,x3,x4,x5,x6,x7,x8⟩:=nJ z.nd;exact⟨_,_,_,_,z.tt.1,?_⟩;have z':Z (Tactic.put Y x (nO t p' l.root r.root (cV k))) tr (.nd x l r t p') k:=by
  exact⟨⟨au,z.tt.2.1.congr λb hb=>ao (gD x1 hb),z.tt.2.2.congr λb hb=>ao (gD x2 hb)⟩,z.cc.congr λb hb=>ao (gD x3 hb),z.nd,?_⟩;rw[ao λe=>?_]
  ·show z.rr
  ·have:=z.rr;nomatch e,z.tt.1,this
 have e:cP (.nd x l r t p') k=A++(x,n,p')::B:=by rw[En,em,eA,eB]
 rw[<-e];exact .GQ z' ?_;rw[e];intro e he;rcases aJ.mp he with he | he
 ·show bK e (cj _ he)
 ·rcases az.mp he with he | he
  ·rw[he];show bK (x,n,p) (by simp)
  ·show bK e (cQ _ (.tail _ he))
def setM(M:Nat->Mp)(b e:Int)(m:Mp):Nat->Mp:=λi=>if b<=(i:Int)/\(i:Int)<e then m else M i
def repl{ra Y M A B x p p' m}{n:Int}(hA:∀e∈A,0<e.2.1)(hm:0<n)(h:jO (λi p=>ef ra Y p (M i)) 0 (eI (A++(x,n,p)::B)))(hp:ef ra Y p' m):jO (λi p=>ef ra Y p (setM M (sQ A) (sQ A+n) m i)) 0 (eI (A++(x,n,p')::B)):=by
 obtain⟨a1,a2,a3⟩:=(Ew hA hm).mp h;have hl:=wa hA;have nn:=AY hA;exact(Ew hA hm).mpr ⟨λi q e=>?_,λi g1 g2=>?_,λi q e=>?_⟩
 ·have hi:i<(eI A).length:=by
   rcases dq i (eI A).length with g | g
   ·show g
   ·nomatch di g,e
  have:setM M (sQ A) (sQ A+n) m (0+i)=M (0+i):=if_neg (λqq=>⟨"_,'A=a,B>A,a:'(0+B);0,1,1,1",hl,hi,qq.1⟩);show ef ra Y q (setM M (sQ A) (sQ A+n) m (0+i));rw[this];show a1 i q e
 ·have:setM M (sQ A) (sQ A+n) m i=m:=if_pos ⟨g1,g2⟩;show ef ra Y p' (setM M (sQ A) (sQ A+n) m i);rw[this];show hp
 ·have:setM M (sQ A) (sQ A+n) m ((sQ A+n).toNat+i)=M ((sQ A+n).toNat+i):=if_neg (λqq=>⟨"_,'(A+B)<a+b,'A=a+b;0,1,-1",qq.2,aH ⟨"0:a+b,0<b,'A=a",hm,hl⟩⟩);show ef ra Y q (setM M (sQ A) (sQ A+n) m _);rw[this];show a3 i q e
def ajW{c d:Int}{m:Mp}(h1:b<=c)(h2:c<=d):setM (setM M b c m) c d m=setM M b d m:=by
 funext i
 unfold setM;by_cases g1:c<=(i:Int)/\(i:Int)<d
 ·rw[if_pos g1,if_pos ⟨⟨"a:'A,a:b,b:'A",h1,g1.1⟩,⟨"'A<a,'A<a",g1.2⟩⟩]
 ·rw[if_neg g1];by_cases g2:b<=(i:Int)/\(i:Int)<c
  ·rw[if_pos g2,if_pos ⟨⟨"a:'A,a:'A",g2.1⟩,⟨"'A<a,b:a,'A<b",h2,g2.2⟩⟩]
  ·rw[if_neg g2,if_neg λq=>g1 ⟨cg.mp λx=>g2 ⟨q.1,x⟩,q.2⟩]
def akI{m:Mp}:setM M b b m=M:=by
 funext i;show if_neg (λqq=>⟨"_,a:'A,'A<a;0,1,1",qq.1,qq.2⟩)
theorem ef.bj{ra Y Y' p m}(h:ef ra Y p m)(f:Fr [] Y Y'):ef ra Y' p m:=⟨h.1,h.2.bj f⟩
abbrev OU(tp:Nat)(b e:Int)(p:Nat)(bv:Bool)(ex:Env):Env:=(27,.ref tp)::(86,.int b)::(62,.int e)::(63,.ref p)::(97,.bool bv)::ex
abbrev J5(tp ls:Nat)(bv:Bool)(ex:Env):Env:=(27,.ref tp)::(17,.ref ls)::(97,.bool bv)::ex
inductive LS(tp p:Nat)(b e:Int)(ra tr c:Nat)(Y:So)(m:Mp)(M:Nat->Mp)(A C D:List Nd)(rest:List V)(env:Env)(s:So):Prop
 |mk (bv:Bool) (C1 lG C2:List Nd):(∃ex,env=OU tp b e p bv ex/\Suf [93] ex)->C=C1++C2->rest=C2.map (λe=>V.ref e.1)->sQ lG=sQ C1->Tree s tr (A++lG++C2++D)->jO (λi p=>ef ra s p (setM M b (b+sQ C1) m i)) 0 (eI (A++lG++C2++D))->cK tr Y s->s c=some (.lst (C.map λe=>.ref e.1))->LS tp p b e ra tr c Y m M A C D rest env s
def aeX{n Q X ra Y tp tr N M p m}{e:Int}(h:Tx ra Y tr N M)(hN:N<=800)(h0:0<=b)(h1:b<e)(h2:e<=N)(jA:Y tp=some (rP tr))(hp:ef ra Y p m)(jC:∃xs,Y ra=some (.lst xs))
  (hq:∀v Y',Tx ra Y' tr N (setM M b e m)->cK tr Y Y'->Q (.bool v) Y'):(Wn (n+8)).call 55 [.ref tp,.int b,.int e,.ref p] Q X Y:=by
 obtain⟨sq,ht,hs,hc⟩:=h;obtain⟨rv,nz⟩:=ht.rt;exact en (fd:=RP) rfl ?_;exact agP ht ⟨"a:800,b:800,a=b",hN,hs⟩ h0 h1 ⟨"a:b,a:c,b=c;1,1,-1",h2,hs⟩ jA λc Y1 A C D t1 Xe hsA J4 iH iJ=>?_;obtain⟨rv1,hrv1⟩:=t1.rt
 exists iH
 have jX:sQ (A++C++D)=N:=by rw[<-hs,<-wa t1.pos,<-wa ht.pos,Xe]
 have A7:=Tx.j8 (N:=N) ht hc iJ
 rewrite [<-Xe] at A7
 have Hc:∀e∈A,0<e.2.1:=λe he=>t1.pos e (by simp[he]);have OV:∀e∈C,0<e.2.1:=λe he=>t1.pos e (by simp[he]);have Xf:C.length<=800:=by have:=xj t1.pos;rewrite [jX] at this;simp at this;show⟨"A.800,a:800,'B+('A+'C):a",hN,this⟩
 have iK:=iJ.tp jA ht.rt;have fin:∀(bv:Bool) (env:Env) (s:So),(∃ex,env=OU tp b e p bv ex/\Suf [93] ex)->Tx ra s tr N (setM M b e m)->cK tr Y s->wSs (Wn (n+7)) [.ex (.call 60 [.v 27,.v 86,.v 62]),.ret (.v 97)] env (qN Q) Q X s:=by
  rintro bv env s aE hx fs;have OW:=fs.tp jA ht.rt;obtain⟨ex,rfl,J6⟩:=aE;exact ahH hx ⟨"a:900,a:800",hN⟩ h0 OW λs' ju fs'=>?_;show hq bv s' ju (fs.trans fs')
 exact uX (LS tp p b e ra tr c Y m M A C D) ?_ ?_ ?_ _ _ _ ⟨false,[],[],C,⟨[],rfl,.none _⟩,rfl,rfl,rfl,by simpa using t1,by
   have:setM M b (b+sQ []) m=M:=by
    show setM M b (b+0) m=M;rw[Int.add_zero,akI]
   rw[this];simpa using A7,iJ,iH⟩
 ·rintro _ _ s ⟨_,_,_,_,_,_,_,_,_,_,_,h⟩;show h
 ·rintro v rest env s ⟨bv,C1,lG,C2,aE,eC,qw,j9,ts,jB,fs,gA⟩ K hK;cases C2 with
  |nil=>cases qw
  |cons y C2=>
   obtain⟨y,k,q⟩:=y;injection qw with ev er;subst ev;have pos:=ts.pos;have OX:Tree s tr ((A++lG)++(y,k,q)::(C2++D)):=by simpa using ts
   have vm:jO (λi p=>ef ra s p (setM M b (b+sQ C1) m i)) 0 (eI ((A++lG)++(y,k,q)::(C2++D))):=by simpa using jB
   have OY:∀e∈A++lG,0<e.2.1:=λe he=>pos e (by simp at he;rcases he with he | he<;>simp[he]);have pk:0<k:=pos (y,k,q) (by simp);have sA':sQ (A++lG)=b+sQ C1:=by rw[gL,hsA,j9]
   have nn1:=AY (l:=C1) λe he=>OV e (by rw[eC];simp[he]);have Ex:=AY OY;have Hd:sQ (C1++[(y,k,q)])=sQ C1+k:=by rw[gL,nC];show _+(k+0)=_;show⟨"a+(b+0)=a+b"⟩
   have J7:ef ra s p m:=hp.j8 fs nz;obtain⟨_,_,_,_,ny⟩:=OX.G5;obtain⟨a1,a2,a3⟩:=(Ew OY pk).mp vm;have gq:ef ra s q (setM M b (b+sQ C1) m (sQ (A++lG)).toNat):=a2 (sQ (A++lG)).toNat ⟨"a:'A,'A=a;1,-1",aH ⟨"0:a,0:a",Ex⟩⟩ ⟨"'A<a+b,0<b,'A=a",pk,aH ⟨"0:a,0:a",Ex⟩⟩;have vn:∀(s2:So) (p2:Nat),jO (λi p=>ef ra s2 p (setM M b (b+sQ C1) m i)) 0 (eI ((A++lG)++(y,k,q)::(C2++D)))->ef ra s2 p2 m->jO (λi p=>ef ra s2 p (setM M b (b+sQ (C1++[(y,k,q)])) m i)) 0 (eI (A++(lG++[(y,k,p2)])++C2++D)):=λs2 p2 g1 g2=>by
    have:=repl OY pk g1 g2
    rewrite [sA',ajW (by show⟨"a:a+b,0:b",nn1⟩) (by show⟨"a+b:a+b+c,0<c",pk⟩)] at this
    rw[Hd,<-Int.add_assoc]
    simpa using this
   obtain⟨ex,rfl,J6⟩:=aE;show wSs (Wn (n+7)) _ (OU tp b e p bv (Tactic.up ex 93 (.ref y))) K Q bW s;rw[J6.up1];exact Ee ny ?_;exact W8 J7.2 gq.2 (λem=>?_) (λ_=>?_)
   ·exact hK _ _ ⟨bv,C1++[(y,k,q)],lG++[(y,k,q)],C2,⟨_,rfl,⟨[_],rfl⟩⟩,by rw[eC];simp,er,?_,by simpa using ts,vn s q vm (em ▸ gq),fs,gA⟩;rw[gL,gL,j9]
   ·obtain⟨lp,⟨vs,qh,Xg⟩,ho,fI⟩:=J7.2;have hv3:=ho.len;have DX:=Xg.len;exact NK qh (by unfold big;show⟨"A>100000,B.3,A~B",hv3,DX⟩) λc2 gI=>?_;have Ez:Tree (put s c2 (.lst vs)) tr ((A++lG)++(y,k,q)::(C2++D)):=OX.put λcl fs=>by rw[gI];simp
    obtain⟨t,l,r,qq,Xh,ts3⟩:=Ez.ap0 c2;have qt:cK tr s (put s c2 (.lst vs)):=.new gI;have J3:cK tr (put s c2 (.lst vs)) (put (put s c2 (.lst vs)) y (nO t c2 l r qq)):=.node Xh;have J8:=qt.trans J3;obtain⟨rvs,He⟩:=ts.rt;have OZ:c2≠ra:=λe=>by
     obtain⟨xs,jL⟩:=jC;have:=fs ra _ jL (λe=>by nomatch e,nz,jL) (λ_ e=>by cases e)
     rewrite [<-e,gI] at this;cases this
    have O0:c2≠y:=λe=>by rewrite [e] at gI;nomatch ny,gI
    have qT:ef ra (put (put s c2 (.lst vs)) y (nO t c2 l r qq)) c2 m:=by
     exact⟨OZ,lp,⟨vs,by rw[ao O0];show au,Xg.fr λa xs ha=>?_⟩,ho,fI⟩;show J8 a _ ha (λe=>by nomatch e,He,ha) λ_ e=>by cases e
    exact apM Xh ?_;exact hK _ _ ⟨true,C1++[(y,k,q)],lG++[(y,k,c2)],C2,⟨_,rfl,⟨[_],rfl⟩⟩,by rw[eC];simp,er,?_,by simpa using ts3,vn _ c2 (Tx.j8 (N:=N) OX vm J8) qT,fs.trans J8,J8 c _ gA (λe=>by nomatch e,He,gA) λ_ e=>by cases e⟩
    rw[gL,gL,j9];rfl
 ·rintro env s ⟨bv,C1,lG,C2,aE,eC,qw,j9,ts,jB,fs,gA⟩;cases C2 with
  |cons _ _=>cases qw
  |nil=>
   rewrite [bG] at eC
   subst eC;have e1:b+sQ C=e:=⟨"a+b=c,b=c-a;1,1;1,-1",J4⟩
   rewrite [e1] at jB
   show fin bv env s aE ⟨_,ts,by rw[<-jX,gL,gL,gL,gL,gL,j9];show _+0+_=_;show⟨"a+b+0+c=a+b+c"⟩,jB⟩ fs
class inductive RL(ra:Nat)(Y:So):List V->List (Int×Int×Mp)->Prop
 |nil:RL ra Y [] []
 |cons {a b e p m vs R}:Y a=some (.tup [.int b,.int e,.ref p])->ef ra Y p m->RL ra Y vs R->RL ra Y (.ref a::vs) ((b,e,m)::R)
@[elab_as_elim] def RL.c{ra Y v vs l}{P:V->List (Int×Int×Mp)->Prop}(h:RL ra Y (v::vs) l)(k:∀a b e p m R,Y a=some (.tup [.int b,.int e,.ref p])->ef ra Y p m->RL ra Y vs R->P (.ref a) ((b,e,m)::R)):P v l:=by
 cases h with | cons a b c=>show k _ _ _ _ _ _ a b c
def RL.j8{ra tr Y Y' vs R v}(h:RL ra Y vs R)(f:cK tr Y Y')(ht:Y tr=some (lN v)):RL ra Y' vs R:=by
 induction h with
 |nil=>show .nil
 |cons h1 h2 _ ih=>show .cons (f _ _ h1 (λe=>by nomatch e,ht,h1) λ_ e=>by cases e) (h2.j8 f ht) ih
def EA(M:Nat->Mp)(R:List (Int×Int×Mp)):Nat->Mp:=R.foldl (λM r=>setM M r.1 r.2.1 r.2.2) M
inductive LP(tp ls:Nat)(ra tr:Nat)(Y:So)(N:Int)(M:Nat->Mp)(R:List (Int×Int×Mp))(rest:List V)(env:Env)(s:So):Prop
 |mk (bv:Bool) (R1 R2:List (Int×Int×Mp)):(∃ex,env=J5 tp ls bv ex/\Suf [86,62,63] ex)->R=R1++R2->RL ra Y rest R2->Tx ra s tr N (EA M R1)->cK tr Y s->LP tp ls ra tr Y N M R rest env s
def Xi{n Q X ra Y tp tr N M ls vs R}(h:Tx ra Y tr N M)(hN:N<=800)(jA:Y tp=some (rP tr))(jC:∃xs,Y ra=some (.lst xs))(hl:Y ls=some (.lst vs))(hR:RL ra Y vs R)(hb:∀r∈R,0<=r.1/\r.1<r.2.1/\r.2.1<=N)
  (hq:∀v Y',Tx ra Y' tr N (EA M R)->cK tr Y Y'->Q (.bool v) Y'):(Wn (n+9)).call 45 [.ref tp,.ref ls] Q X Y:=by
 obtain⟨rv,nz⟩:=h.ex.choose_spec.1.rt;exact en (fd:=RB) rfl ?_
 exists hl
 exact uX (LP tp ls ra tr Y N M R) ?_ ?_ ?_ _ _ _ ⟨false,[],R,⟨[],rfl,.none _⟩,rfl,hR,h,.refl⟩
 ·rintro _ _ s ⟨_,_,_,_,_,_,_,fs⟩;show fs ls _ hl (λe=>by nomatch e,nz,hl) λ_ e=>by cases e
 ·rintro v rest env s ⟨bv,R1,R2,aE,eR,hr,hx,fs⟩ K hK;have O1:∃xs,s ra=some (.lst xs):=by
   obtain⟨xs,jL⟩:=jC;show⟨xs,fs ra _ jL (λe=>by nomatch e,nz,jL) λ_ e=>by cases e⟩
  revert eR;exact hr.c λa b e p m R2 h1 h2 h3 eR=>?_;have A8:=hb (b,e,m) (by rw[eR];simp);exact JZ (fs _ _ h1 (λe=>by nomatch e,nz,h1) λ_ e=>by cases e) ?_
  obtain⟨ex,rfl,J6⟩:=aE;obtain⟨e1,h5,u3⟩:=J6.three;rw[show Tactic.up (Tactic.up (Tactic.up (J5 tp ls bv ex) 86 (.int b)) 62 (.int e)) 63 (.ref p)=J5 tp ls bv ((86,.int b)::(62,.int e)::(63,.ref p)::e1) from congrArg (J5 tp ls bv) (u3 _ _ _),h5.nil];exact aeX hx hN A8.1 A8.2.1 A8.2.2 (fs.tp jA ⟨rv,nz⟩) (h2.j8 fs nz) O1 λbv' s' ju fs'=>?_;have Cp:Tx ra s' tr N (EA M (R1++[(b,e,m)])):=by
   unfold EA;rw[List.foldl_append];show ju
  cases bv' with
  |true=>show hK _ _ ⟨true,R1++[(b,e,m)],R2,⟨_,rfl,⟨[_,_,_],rfl⟩⟩,by rw[eR];simp,h3,Cp,fs.trans fs'⟩
  |false=>show hK _ _ ⟨bv,R1++[(b,e,m)],R2,⟨_,rfl,⟨[_,_,_],rfl⟩⟩,by rw[eR];simp,h3,Cp,fs.trans fs'⟩
 ·rintro env s ⟨bv,R1,R2,aE,eR,hr,hx,fs⟩;cases hr
  rewrite [bG] at eR
  subst eR;obtain⟨ex,rfl,_⟩:=aE;show hq bv s hx fs
set_option tactic.hygienic false
def eJ.O2{Y vs l l'}(h:eJ Y vs l)(h':eJ Y vs l'):l=l':=by
 induction h generalizing l' with
 |nil=>cases h';rfl
 |cons u1 u2 ih=>
  cases h' with
  |cons OL OO=>
   nomatch u1,OL
   rw[ih OO]
def GP.O2{Y p m m'}(h:GP Y p m)(h':GP Y p m'):m=m':=by
 obtain⟨l,⟨vs,a,b⟩,_,c⟩:=h;obtain⟨l',⟨fy,a',b'⟩,_,c'⟩:=h'
 nomatch a,a'
 have:=b.O2 b';subst this
 funext x
 rw[<-c x,c' x]
theorem Fr.j8{tr Y Y'}(f:Fr [] Y Y'):cK tr Y Y':=λb o e _ _=>f b o e (by simp)
theorem Fr.CZ{a:Nat}(h:Y a=none):Fr [] Y (Tactic.put Y a o):=.new h
def Tree.bj{Y Y' tr sq}(h:Tree Y tr sq)(f:Fr [] Y Y'):Tree Y' tr sq:=by
 obtain⟨v,hv⟩:=h.rt;exact h.fr (λb hb=>?_) ?_
 ·obtain⟨A,B,n,p,rfl⟩:=xi hb;obtain⟨_,_,_,_,e⟩:=h.node;rw[e];show f.k e
 ·rw[hv];show f.k hv
def Tx.bj{ra Y Y' tr N M}(h:Tx ra Y tr N M)(f:Fr [] Y Y'):Tx ra Y' tr N M:=by
 obtain⟨sq,a,b,c⟩:=h;show⟨sq,a.bj f,b,λi p e=>(c i p e).bj f⟩
def O3{A B:List Nd}{x p:Nat}{m:Int}(hA:∀e∈A,0<e.2.1)(h1:sQ A<=i)(h2:(i:Int)<sQ A+m):(eI (A++(x,m,p)::B))[i]?=some p:=by
 have hl:=wa hA;have hL:(eI A).length<=i:=⟨"A.B,a:'B,'A=a",h1,hl⟩;have hx:i-(eI A).length<m.toNat:=⟨"A>B,A+C~D,'D<a+b,'C=a,'B=b;1,1,1,-1,-1",y6 hL,h2,hl,aH ⟨"0:b,a:'A,'A<a+b",h1,h2⟩⟩;rw[JS,Er,fS hL,eY (by rw[oQ];show hx),oP,if_pos hx]
def akC{n Q X ra Y tp tr N M}{at_:Int}(h:Tx ra Y tr N M)(h0:0<=at_)(h1:at_<N)(jA:Y tp=some (rP tr))(hq:∀p Y',Fr [] Y Y'->ef ra Y p (M at_.toNat)->Q (.ref p) Y'):(Wn (n+4)).call 18 [.ref tp,.int at_] Q X Y:=by
 obtain⟨sq,ht,hs,hc⟩:=h;exact en (fd:=Rf) rfl ?_;exact rQ jA ?_;exact text_len ht ?_;conv=>whnf
 split<;>rename_i e
 ·simp at e;show absurd h1 (cg.mpr (hs ▸ e))
 ·exact rQ jA ?_;exact Ep ht h0 ⟨"a<b,a<c,b=c;1,1,-1",h1,hs⟩ λc A x m p B lO nK g1 g2=>?_;have hd:Tree (put Y c (.tup [.ref x,.int (sQ A)])) tr sq:=ht.put λcl fs=>by rw[lO];simp
  have Hc:∀e∈A,0<e.2.1:=λe he=>ht.pos e (by rw[nK];simp[he]);exact aaa au (x:=.ref x) rfl ?_;rw[nK] at hd;obtain⟨_,_,_,_,nx⟩:=hd.G5;exact Ee nx ?_;exact hq p _ (.new lO) ?_;have:=hc at_.toNat p (by rw[nK];show O3 Hc ⟨"a:'A,a:b,'A=b;1,1,-1",g1,aH ⟨"0:a,0:a",h0⟩⟩ ⟨"'A<a+b,c<a+b,'A=c",g2,aH ⟨"0:a,0:a",h0⟩⟩)
  rwa [sU] at this
class inductive lg(M:Nat->Mp):Int->Int->List (Int×Int×Mp)->Prop
 |nil {b:Int}:lg M b b []
 |cons {b c e:Int}{m:Mp}{R:List (Int×Int×Mp)}:b<c->(∀i:Nat,b<=(i:Int)->(i:Int)<c->M i=m)->lg M c e R->lg M b e ((b,c,m)::R)
def lg.le{M b e R}(h:lg M b e R):b<=e:=by
 induction h with
 |nil=>show⟨"a:a"⟩
 |cons h _ _ ih=>show bO (cH h) ih
def lg.snoc{M b c e R m}(h:lg M b c R)(h1:c<e)(h2:∀i:Nat,c<=(i:Int)->(i:Int)<e->M i=m):lg M b e (R++[(c,e,m)]):=by
 induction h with
 |nil=>show .cons h1 h2 .nil
 |cons g1 g2 _ ih=>show .cons g1 g2 (ih h1 h2)
def lg.len{M b e R}(h:lg M b e R):(R.length:Int)<=e-b:=by
 induction h with
 |nil=>simp
 |cons g1 _ _ ih=>simp;show⟨"'A+1:a-b,b<c,'A:a-c",g1,ih⟩
def lg.mem{M b e R}(h:lg M b e R):∀r∈R,b<=r.1/\r.1<r.2.1/\r.2.1<=e/\∀i:Nat,r.1<=(i:Int)->(i:Int)<r.2.1->M i=r.2.2:=by
 induction h with
 |nil=>intro r hr;cases hr
 |cons g1 g2 g3 ih=>
  have:=g3.le;intro r hr;rcases az.mp hr with rfl | hr
  ·show⟨km _,g1,this,g2⟩
  ·have:=ih r hr;show⟨⟨"a:b,a<c,c:b",g1,this.1⟩,this.2.1,this.2.2.1,this.2.2.2⟩
def RL.app{ra Y vs R fy R'}(h:RL ra Y vs R)(h':RL ra Y fy R'):RL ra Y (vs++fy) (R++R'):=by
 induction h with
 |nil=>show h'
 |cons h1 h2 _ ih=>show .cons h1 h2 ih
class inductive jD(ra:Nat)(Y s:So):List V->List (Int×Int×Mp)->Prop
 |nil:jD ra Y s [] []
 |cons {a b e p m vs R}:s a=some (.tup [.int b,.int e,.ref p])->ef ra Y p m->jD ra Y s vs R->jD ra Y s (.ref a::vs) ((b,e,m)::R)
@[elab_as_elim] def jD.c{ra Y s v vs l}{P:V->List (Int×Int×Mp)->Prop}(h:jD ra Y s (v::vs) l)(k:∀a b e p m R,s a=some (.tup [.int b,.int e,.ref p])->ef ra Y p m->jD ra Y s vs R->P (.ref a) ((b,e,m)::R)):P v l:=by
 cases h with | cons a b c=>show k _ _ _ _ _ _ a b c
def jD.app{ra Y s vs R fy R'}(h:jD ra Y s vs R)(h':jD ra Y s fy R'):jD ra Y s (vs++fy) (R++R'):=by
 induction h with
 |nil=>show h'
 |cons h1 h2 _ ih=>show .cons h1 h2 ih
def jD.fr{ra Y s s' vs R}(h:jD ra Y s vs R)(f:∀a xs,s a=some (.tup xs)->s' a=some (.tup xs)):jD ra Y s' vs R:=by
 induction h with
 |nil=>show .nil
 |cons h1 h2 _ ih=>show .cons (f _ _ h1) h2 ih
def jD.len{ra Y s vs R}(h:jD ra Y s vs R):vs.length=R.length:=by
 induction h with
 |nil=>rfl
 |cons _ _ _ ih=>simp[ih]
def RL.len{ra Y vs R}(h:RL ra Y vs R):vs.length=R.length:=by
 induction h with
 |nil=>rfl
 |cons _ _ _ ih=>simp[ih]
abbrev O4(tp:Nat)(b e:Int)(c0:Nat)(v:V)(k:Int)(ex:Env):Env:=(27,.ref tp)::(86,.int b)::(62,.int e)::(36,.ref c0)::(93,v)::(98,.int k)::ex
def O5{S e:Int}(h1:b<=e)(h2:e<=S):max b (min S e)=e:=by rw[ym h2,fP h1]
def Xj{S e:Int}(h:S<=e):max b (min S e)=max b S:=by rw[lU h]
def ap5{S e:Int}(h1:b<=e)(h2:S<=b):max b (min S e)=b:=by rw[lU (bO h2 h1),yo h2]
def anI{S:Int}:(if S<b then b else S)=max b S:=by
 by_cases h:S<b
 ·rw[if_pos h,yo (cH h)]
 ·rw[if_neg h,fP (cg.mp h)]
def aox{T e:Int}(h1:b<=e)(h2:b<=T):(if e<T then e else T)=max b (min T e):=by
 by_cases h:e<T
 ·rw[if_pos h,O5 h1 (cH h)]
 ·rw[if_neg h,Xj (cg.mp h),fP h2]
def aoD{S k e:Int}(h1:b<e)(h2:S<e)(h3:b<S+k)(h4:0<k):max b S<max b (min (S+k) e):=by
 rw[fP (Int.le_min.2 ⟨cH h3,cH h1⟩)];show Int.lt_min.2 ⟨r7.2 ⟨h3,yf _ h4⟩,r7.2 ⟨h1,h2⟩⟩
def adc{n Q X ra Yp Y tp tr N M}{e:Int}(h:Tx ra Yp tr N M)(fp:Fr [] Yp Y)(hN:N<=800)(h0:0<=b)(h1:b<=e)(h2:e<=N)(jA:Y tp=some (rP tr))
  (hq:∀c Y' vs R,Y c=none->Fr [] Y Y'->Y' c=some (.lst vs)->jD ra Yp Y' vs R->lg M b e R->Q (.ref c) Y'):(Wn (n+4)).call 42 [.ref tp,.int b,.int e] Q X Y:=by
 obtain⟨sq,O6,hs,hc⟩:=h;have ht:=O6.bj fp;exact en (fd:=Ry) rfl ?_;intro c0 n0;have bj:Fr [] Y (put Y c0 (.lst [])):=.new n0;conv=>whnf
 split<;>rename_i g
 ·simp at g;have:b=e:=⟨"a=b,a:b,b:a;1,1,0;1,0,1",h1,g⟩;subst this;show hq c0 _ [] [] n0 bj au .nil .nil
 ·simp at g;exact rQ (bj.k jA) ?_;exact Ep (ht.bj bj) h0 ⟨"a<b,c:d,b=d,a<c;1,1,-1,1",h2,hs,g⟩ λc A x m p B lO nK g1 g2=>?_;have iJ:Fr [] Y (put (put Y c0 (.lst [])) c (.tup [.ref x,.int (sQ A)])):=bj.trans (.new lO)
  exists au
  exact⟨rfl,?_⟩;have cc0:c0≠c:=λe=>by rw[<-e,au] at lO;cases lO
  have pos:=ht.pos;have hlen:=xj pos;intro P hP;have key:∀(D A:List Nd) (s:So) (vs:List V) (R:List (Int×Int×Mp)) (env:Env),sq=A++D->(∀y k q D',D=(y,k,q)::D'->b<sQ A+k)->(D=[]->e<=sQ A)->Fr [] Y s->s c0=some (.lst vs)->jD ra Yp s vs R->lg M b (max b (min (sQ A) e)) R->(∃ex,env=O4 tp b e c0 (ou D) (sQ A) ex/\Suf [87] ex)->P env s:=by
   intro D;induction D with
   |nil=>
    intro A s vs R env eS hd hn fs eo hR hC aE;have fin:Q (.ref c0) s:=by
     rw[O5 h1 (hn rfl)] at hC;show hq c0 s vs R n0 fs eo hR hC
    obtain⟨ex,rfl,hx⟩:=aE;exact hP _ _ ?_;show fin
   |cons y D ih=>
    intro A s vs R env eS hd hn fs eo hR hC aE;obtain⟨y,k,q⟩:=y;have ts:Tree s tr (A++(y,k,q)::D):=eS ▸ ht.bj fs;obtain⟨_,_,_,_,ny⟩:=ts.G5;have pk:0<k:=pos (y,k,q) (by rw[eS];simp);have pA:∀e∈A,0<e.2.1:=λe he=>pos e (by rw[eS];simp[he]);have Ex:=AY pA;have Hf:=hd y k q D rfl;have fin:e<=sQ A->Q (.ref c0) s:=λMb=>by
     rw[O5 h1 Mb] at hC;show hq c0 s vs R n0 fs eo hR hC
    have qh:vs.length<=800:=⟨"A.800,A~B,'B:a-b,a:c,c:d,d:800,0:b",hR.len,hC.len,Int.max_le.2 ⟨h1,Int.min_le_right (sQ A) e⟩,h2,hN,h0⟩;have turn:∀ex,Suf [87] ex->sQ A<e->wSs (Wn (n+3)) [.asg (.v 87) (.ar .add (.v 98) (.call 48 [(.v 93)])),.ex (.lm .append (.v 36) [(.tup [(.bi .max [(.v 98),(.v 86)]),(.bi .min [(.v 87),(.v 62)]),(.attr (.v 93) 63)])]),.asg (.v 98) (.v 87),.asg (.v 93) (.call 53 [(.v 93)])] (O4 tp b e c0 (.ref y) (sQ A) ex) P Q bW s:=by
     intro ex hx rN;have main:∀c2,s c2=none->put s c2 (.tup [.int (if sQ A<b then b else sQ A),.int (if e<sQ A+k then e else sQ A+k),.ref q]) c0=some (.lst vs)/\Tree (put (put s c2 (.tup [.int (if sQ A<b then b else sQ A),.int (if e<sQ A+k then e else sQ A+k),.ref q])) c0 (.lst (vs++[.ref c2]))) tr (A++(y,k,q)::D)/\∀(nx:V),nx=ou D->P [(27,.ref tp),(86,.int b),(62,.int e),(36,.ref c0),(93,nx),(98,.int (sQ A+k)),(87,.int (sQ A+k))] (put (put s c2 (.tup [.int (if sQ A<b then b else sQ A),.int (if e<sQ A+k then e else sQ A+k),.ref q])) c0 (.lst (vs++[.ref c2]))):=by
      intro c2 gI;have C3:c0≠c2:=λe=>by rw[<-e,eo] at gI;cases gI
      exact⟨by rw[ao C3];show eo,(ts.put λcl fs=>by rw[gI];simp).put λcl fs=>by rw[ao C3,eo];simp,?_⟩;rintro nx rfl;have j9:sQ (A++[(y,k,q)])=sQ A+k:=by rw[gL,nC];show _+(k+0)=_;show⟨"a+(b+0)=a+b"⟩
      have qt:Fr [] s (put s c2 (.tup [.int (if sQ A<b then b else sQ A),.int (if e<sQ A+k then e else sQ A+k),.ref q])):=.new gI;have fs2:=fs.trans qt;have fs3:Fr [] Y (put (put s c2 (.tup [.int (if sQ A<b then b else sQ A),.int (if e<sQ A+k then e else sQ A+k),.ref q])) c0 (.lst (vs++[.ref c2]))):=λa o ha hn=>by
       rw[ao λe=>by nomatch e,n0,ha]
       show fs2 a o ha hn
      have m0:((max b (sQ A)).toNat:Int)=max b (sQ A):=aH (bO h0 (Int.le_max_left _ _));have B6:=O3 (x:=y) (p:=q) (m:=k) (B:=D) pA (i:=(max b (sQ A)).toNat) (by rw[m0];show yn _ _) (by rw[m0];show r7.2 ⟨Hf,yf _ pk⟩);have gq:ef ra Yp q (M (max b (sQ A)).toNat):=by
       have:=hc _ _ (eS ▸ B6)
       rwa [sU] at this
      have frl:Fr [c0] s (put (put s c2 (.tup [.int (if sQ A<b then b else sQ A),.int (if e<sQ A+k then e else sQ A+k),.ref q])) c0 (.lst (vs++[.ref c2]))):=λa o ha hn=>by
       rw[ao λe=>hn (by rw[e];show .head _)];show qt a o ha (by simp)
      have hR2:jD ra Yp (put (put s c2 (.tup [.int (if sQ A<b then b else sQ A),.int (if e<sQ A+k then e else sQ A+k),.ref q])) c0 (.lst (vs++[.ref c2]))) (vs++[.ref c2]) (R++[(if sQ A<b then b else sQ A,if e<sQ A+k then e else sQ A+k,M (max b (sQ A)).toNat)]):=by
       exact(hR.fr λa xs ha=>?_).app (.cons ?_ gq .nil)
       ·show frl a _ ha λhm=>by simp at hm;nomatch hm,eo,ha
       ·rw[ao (aj C3)];show au
      exact ih (A++[(y,k,q)]) _ _ _ _ (by rw[eS];simp) (λy' k' q' D' eD=>?_) (λeD=>?_) fs3 au hR2 ?_ ⟨[(87,_)],by rw[j9],⟨[_],rfl⟩⟩
      ·have:0<k':=pos (y',k',q') (by rw[eS,eD];simp);rw[j9];show⟨"a<b+c+d,a<b+c,0<d",Hf,this⟩
      ·rw[j9];rw[eS,eD,gL,nC] at hs;have:sQ A+(k+0)=N:=hs;show⟨"a:b+c,a:d,b+(c+0)=d;1,1,-1",h2,this⟩
      ·rw[j9];rw[Xj (cH rN)] at hC;rw[anI,aox h1 (cH Hf)];exact hC.snoc (aoD g rN Hf pk) λi i1 i2=>?_;have O7:=O3 (x:=y) (p:=q) (m:=k) (B:=D) pA (i:=i) ⟨"a:'A,b:'A,a:b",i1,yn _ _⟩ (oK i2 (Int.max_le.2 ⟨cH Hf,Int.min_le_left _ _⟩));have g2:ef ra Yp q (M i):=by
        have:=hc _ _ (eS ▸ O7)
        rwa [sU] at this
       show g2.2.O2 gq.2
     exact GR ts ?_;show wSs (Wn (n+3)) _ (O4 tp b e c0 (.ref y) (sQ A) (Tactic.up ex 87 (.int (sQ A+k)))) P Q bW s;rw[hx.up1]
     exists eo
     exact Ee ny ?_;intro c2 gI;obtain⟨m1,m3,m2⟩:=main c2 gI
     exists m1
     exact⟨by unfold big;show⟨"A>100000,A.800",qh⟩,?_⟩;exact following m3 ?_;show m2 _ rfl
    obtain⟨ex,rfl,hx⟩:=aE;exact hP _ _ ?_;conv=>whnf
    split<;>rename_i g3
    ·simp at g3;show turn _ hx g3
    ·simp at g3;show fin g3
  exact key ((x,m,p)::B) A _ [] [] _ nK (λy k q D' eD=>?_) (λeD=>by cases eD) iJ (by rw[ao cc0];show au) .nil ?_ ⟨[],rfl,.none _⟩
  ·injection eD with e1 e2;injection e1 with e3 e4;injection e4 with e4 e5;show⟨"a<b+c,a<b+d,d=c",g2,e4⟩
  ·rw[ap5 h1 ⟨"a:b,a:b",g1⟩];show .nil
def dE(ra:Nat)(Y Y':So):Prop:=∀b o,Y b=some o->(∀c fs,o≠.inst c fs)->b≠ra->Y' b=some o
theorem dE.refl{ra Y}:dE ra Y Y:=λ_ _ e _ _=>e
theorem dE.trans{ra:Nat}(x:dE ra Y1 Y2)(y:dE ra Y2 Y3):dE ra Y1 Y3:=λb o e n i=>y b o (x b o e n i) n i
theorem Fr.dI{ra Y Y'}(f:Fr [] Y Y'):dE ra Y Y':=λb o e _ _=>f b o e (by simp)
theorem cK.dI{ra tr Y Y' v}(f:cK tr Y Y')(ht:Y tr=some (lN v)):dE ra Y Y':=λb o e n _=>f b o e (λq=>by nomatch q,ht,e;show n _ _ rfl) λfs=>n 1 fs
theorem dE.inst{ra Y a c fs o}(h:Y a=some (.inst c fs)):dE ra Y (Tactic.put Y a o):=λb ob e n _=>by
 rw[ao λq=>by nomatch q,h,e;show n _ _ rfl];show e
theorem dE.self{ra Y o}:dE ra Y (Tactic.put Y ra o):=λb ob e n i=>by rw[ao i];show e
def GP.dI{ra Y Y' p m xs}(h:GP Y p m)(f:dE ra Y Y')(hp:p≠ra)(hr:Y ra=some (.lst xs)):GP Y' p m:=by
 obtain⟨l,⟨vs,h1,h2⟩,h3,h4⟩:=h;show⟨l,⟨vs,f p _ h1 (λ_ _ e=>by cases e) hp,h2.fr λa xs ha=>f a _ ha (λ_ _ e=>by cases e) λe=>by nomatch e,hr,ha⟩,h3,h4⟩
theorem ef.dI{ra Y Y' p m xs}(h:ef ra Y p m)(f:dE ra Y Y')(hr:Y ra=some (.lst xs)):ef ra Y' p m:=⟨h.1,h.2.dI f h.1 hr⟩
set_option genInjectivity true in
inductive Row where
 |cL
 |iq (t:Int)
 |prop (s e k:Int) (v:Option Int)
def Row.ctorIdx(v:Row):Nat:=(by cases v with | cL=>show 0 | iq=>show 1 | prop=>show 2)
def oV:Option Int->V
 |none=>.none
 |some t=>.int t
def qx(Y:So)(a:Nat):Row->Prop
 | .cL=>a=884/\Y a=some (.tup [.str 16])
 | .iq t=>Y a=some (.tup [.str 71,.int t])
 | .prop s e k none=>Y a=some (.tup [.str 70,.int s,.int e,.int k,.none])
 | .prop s e k (some v)=>∃b,Y a=some (.tup [.str 70,.int s,.int e,.int k,.ref b])/\Y b=some (.tup [.int v])
class inductive UR(Y:So):List V->List Row->Prop
 |nil:UR Y [] []
 |cons {a r vs L}:qx Y a r->UR Y vs L->UR Y (.ref a::vs) (r::L)
@[elab_as_elim] def UR.c{Y v vs l}{P:V->List Row->Prop}(h:UR Y (v::vs) l)(k:∀a r L,qx Y a r->UR Y vs L->P (.ref a) (r::L)):P v l:=by
 cases h with | cons a b=>show k _ _ _ a b
def qx.fr{Y Y' a r}(h:qx Y a r)(f:∀a xs,Y a=some (.tup xs)->Y' a=some (.tup xs)):qx Y' a r:=by
 cases r with
 |cL=>show⟨h.1,f _ _ h.2⟩
 |iq t=>show f _ _ h
 |prop s e k v=>
  cases v with
  |none=>show f _ _ h
  |some v=>show⟨h.choose,f _ _ h.choose_spec.1,f _ _ h.choose_spec.2⟩
def UR.fr{Y Y' vs L}(h:UR Y vs L)(f:∀a xs,Y a=some (.tup xs)->Y' a=some (.tup xs)):UR Y' vs L:=by
 induction h with
 |nil=>show .nil
 |cons h _ ih=>show .cons (h.fr f) ih
def UR.app{Y vs L fy L'}(h:UR Y vs L)(h':UR Y fy L'):UR Y (vs++fy) (L++L'):=by
 induction h with
 |nil=>show h'
 |cons h _ ih=>show .cons h ih
def UR.len{Y vs L}(h:UR Y vs L):vs.length=L.length:=by
 induction h with
 |nil=>rfl
 |cons _ _ ih=>simp[ih]
theorem dE.tup{ra Y Y' xs}(f:dE ra Y Y')(hr:Y ra=some (.lst xs)):∀a ys,Y a=some (.tup ys)->Y' a=some (.tup ys):=λa ys h=>f a _ h (λ_ _ e=>by cases e) λe=>by nomatch e,hr,h
structure Cf where
 bf:Nat
 tx:Nat
 mks:Nat
 ls:Nat
 un:Nat
 ul:Nat
 tp:Nat
 tr:Nat
 ce:Nat
 pt:Int
 ct:Int
 N:Int
 room:Int
 gs:Int
 ge:Int
abbrev EB(c:Cf)(rd:Bool)(tk sv:Int):O:=.inst 7 [(39,.int 1),(40,.str 25),(41,.ref c.tx),(43,.ref c.mks),(44,.int c.pt),(45,.int 1),(46,.int (c.N+1)),(47,.none),(48,.bool true),(11,.bool rd),(9,.int tk),(49,.int c.ct),(50,.int sv),(51,.ref c.ls),(14,.ref c.un),(27,.ref c.tp),(52,.none),(53,.none),(54,.none),(55,.none)]
abbrev unO(c:Cf):O:=.inst 10 [(15,.ref c.ul)]
abbrev wd(ra:Nat)(nt:Option Int):O:=.inst 8 [(17,.ref ra),(80,.int 0),(81,.bool true),(82,.none),(83,oV nt)]
abbrev txO(c:Cf):O:=.inst 4 [(42,.int c.room),(73,.ref c.ce),(74,.int c.gs),(75,.int c.ge)]
structure Bs(c:Cf)(Y:So)(ra:Nat)(rd:Bool)(tk sv:Int)(nt:Option Int)(L:List Row)(M:Nat->Mp):Prop where
 bf:Y c.bf=some (EB c rd tk sv)
 un:Y c.un=some (unO c)
 ul:Y c.ul=some (wd ra nt)
 rows:∃xs,Y ra=some (.lst xs)/\UR Y xs L
 ls:Y c.ls=some (.lst [])/\c.ls≠ra
 tx:Y c.tx=some (txO c)
 ce:∃xs,Y c.ce=some (.lst xs)/\(xs.length:Int)-c.ge+c.gs=c.N/\c.ce≠ra
 tp:Y c.tp=some (rP c.tr)
 tree:Tx ra Y c.tr c.N M
 cL:Y 884=some (.tup [.str 16])
def Bs.bj{c Y Y' ra rd tk sv nt L M}(h:Bs c Y ra rd tk sv nt L M)(f:Fr [] Y Y'):Bs c Y' ra rd tk sv nt L M:=by
 have g:∀{b o},Y b=some o->Y' b=some o:=λe=>f.k e
 obtain⟨xs,h1,h2⟩:=h.rows;obtain⟨ys,h3,h4⟩:=h.ce;show⟨g h.bf,g h.un,g h.ul,⟨xs,g h1,h2.fr λa xs e=>g e⟩,⟨g h.ls.1,h.ls.2⟩,g h.tx,⟨ys,g h3,h4⟩,g h.tp,h.tree.bj f,g h.cL⟩
def Bs.j8{c Y Y' ra rd tk sv nt L M M'}(h:Bs c Y ra rd tk sv nt L M)(f:cK c.tr Y Y')(ht:Tx ra Y' c.tr c.N M'):Bs c Y' ra rd tk sv nt L M':=by
 obtain⟨v,hv⟩:=h.tree.ex.choose_spec.1.rt;have g:∀{b o},Y b=some o->o≠lN v->(∀fs,o≠.inst 1 fs)->Y' b=some o:=λe n i=>f _ _ e (λq=>by nomatch q,hv,e;show n rfl) i
 obtain⟨xs,h1,h2⟩:=h.rows;obtain⟨ys,h3,h4⟩:=h.ce;show⟨g h.bf (by simp) (by simp),g h.un (by simp) (by simp),g h.ul (by simp) (by simp),⟨xs,g h1 (by simp) (by simp),h2.fr λa xs e=>g e (by simp) (by simp)⟩,⟨g h.ls.1 (by simp) (by simp),h.ls.2⟩,g h.tx (by simp) (by simp),⟨ys,g h3 (by simp) (by simp),h4⟩,g h.tp (by simp) (by simp),ht,g h.cL (by simp) (by simp)⟩
def Tx.put{ra Y tr N M b}(h:Tx ra Y tr N M)(h1:∀fs,Y b≠some (.inst 1 fs))(h2:b≠tr)(h3:(∀xs,Y b≠some (.tup xs))/\(b=ra\/∀xs,Y b≠some (.lst xs))):Tx ra (Tactic.put Y b o) tr N M:=by
 obtain⟨sq,a,e,d⟩:=h;exact⟨sq,a.fr (λx hx=>ao λq=>?_) (ao (aj h2)),e,λi p hp=>?_⟩
 ·obtain⟨A,B,n,p,rfl⟩:=xi hx;obtain⟨_,_,_,_,e⟩:=a.node;show h1 _ (q ▸ e)
 ·obtain⟨q0,l,⟨vs,q1,q2⟩,q3,q4⟩:=d i p hp;exact⟨q0,l,⟨vs,?_,q2.fr λx xs hx=>?_⟩,q3,q4⟩
  ·rw[ao λq=>?_]
   ·show q1
   ·rcases h3.2 with e | e
    ·show q0 (q.trans e)
    ·show e _ (q ▸ q1)
  ·rw[ao λq=>h3.1 xs (by rw[<-q];show hx)];show hx
def Bs.J9{c Y ra rd tk sv nt L M rd' tk' sv'}(h:Bs c Y ra rd tk sv nt L M):Bs c (put Y c.bf (EB c rd' tk' sv')) ra rd' tk' sv' nt L M:=by
 obtain⟨v,hv⟩:=h.tree.ex.choose_spec.1.rt;have g:∀{b o},Y b=some o->o≠EB c rd tk sv->put Y c.bf (EB c rd' tk' sv') b=some o:=λe n=>by
  rw[ao λq=>by nomatch q,h.bf,e;show n rfl];show e
 obtain⟨xs,h1,h2⟩:=h.rows;obtain⟨ys,h3,h4⟩:=h.ce;exact⟨au,g h.un (by simp),g h.ul (by simp),⟨xs,g h1 (by simp),h2.fr λa xs e=>g e (by simp)⟩,⟨g h.ls.1 (by simp),h.ls.2⟩,g h.tx (by simp),⟨ys,g h3 (by simp),h4⟩,g h.tp (by simp),h.tree.put (by rw[h.bf];simp) (λe=>by have:=h.bf;nomatch e,hv,this) ⟨by rw[h.bf];simp,.inr (by rw[h.bf];simp)⟩,g h.cL (by simp)⟩
def Bs.aov{c Y ra rd tk sv nt L M nt'}(h:Bs c Y ra rd tk sv nt L M):Bs c (put Y c.ul (wd ra nt')) ra rd tk sv nt' L M:=by
 obtain⟨v,hv⟩:=h.tree.ex.choose_spec.1.rt;have g:∀{b o},Y b=some o->o≠wd ra nt->put Y c.ul (wd ra nt') b=some o:=λe n=>by
  rw[ao λq=>by nomatch q,h.ul,e;show n rfl];show e
 obtain⟨xs,h1,h2⟩:=h.rows;obtain⟨ys,h3,h4⟩:=h.ce;exact⟨g h.bf (by simp),g h.un (by simp),au,⟨xs,g h1 (by simp),h2.fr λa xs e=>g e (by simp)⟩,⟨g h.ls.1 (by simp),h.ls.2⟩,g h.tx (by simp),⟨ys,g h3 (by simp),h4⟩,g h.tp (by simp),h.tree.put (by rw[h.ul];simp) (λe=>by have:=h.ul;nomatch e,hv,this) ⟨by rw[h.ul];simp,.inr (by rw[h.ul];simp)⟩,g h.cL (by simp)⟩
def Bs.Ka{c Y ra rd tk sv nt L M a r xs}(h:Bs c Y ra rd tk sv nt L M)(hx:Y ra=some (.lst xs))(hr:qx Y a r):Bs c (put Y ra (.lst (xs++[.ref a]))) ra rd tk sv nt (L++[r]) M:=by
 obtain⟨v,hv⟩:=h.tree.ex.choose_spec.1.rt;obtain⟨iw,h1,h2⟩:=h.rows
 nomatch hx,h1
 have g:∀{b o},Y b=some o->(∀ys,o≠.lst ys)->put Y ra (.lst (xs++[.ref a])) b=some o:=λe n=>by
  rw[ao λq=>by nomatch q,hx,e;show n _ rfl];show e
 obtain⟨ys,h3,h4,h5⟩:=h.ce;exact⟨g h.bf (by simp),g h.un (by simp),g h.ul (by simp),⟨_,au,(h2.app (.cons hr .nil)).fr λa xs e=>g e (by simp)⟩,⟨by rw[ao h.ls.2];show h.ls.1,h.ls.2⟩,g h.tx (by simp),⟨ys,by rw[ao h5];show h3,h4,h5⟩,g h.tp (by simp),h.tree.put (by rw[hx];simp) (λe=>by nomatch e,hv,hx) ⟨by rw[hx];simp,.inl rfl⟩,g h.cL (by simp)⟩
def eO(s e:Int):Int:=if e<s then e else s
def fA(s e:Int):Int:=if s<e then e else s
def Xk{s e:Int}:eO s e<=fA s e:=by
 unfold eO fA;by_cases h:e<s
 ·rw[if_pos h,if_neg (cg.mpr (cH h))];show cH h
 ·rw[if_neg h];by_cases g:s<e
  ·rw[if_pos g];show cH g
  ·rw[if_neg g];show km _
def Xl{n Q X c Y ra rd tk sv nt L M}{s e:Int}(h:Bs c Y ra rd tk sv nt L M)(hx:(eO s e<1\/c.N+1<fA s e)->∀Y',Fr [] Y Y'->X 34 Y')
  (hq:1<=eO s e->fA s e<=c.N+1->∀a Y',Fr [] Y Y'->Y' a=some (.tup [.int (eO s e),.int (fA s e)])->Q (.ref a) Y'):(Wn (n+1)).call 29 [.ref c.bf,.int s,.int e] Q X Y:=by
 exact en (fd:=Rn) rfl ?_;unfold eO fA at hx hq;intro a ha;have f1:Fr [] Y (put Y a (.tup [.int (if e<s then e else s),.int (if s<e then e else s)])):=.new ha;generalize (if e<s then e else s)=lo at *;generalize (if s<e then e else s)=hi at *;have k9:=f1.k h.bf;have Hg:(lo<1\/c.N+1<hi)->wSs (Wn n) [.raise 34 (.list [(.v 61),(.v 62)])] [(3,.ref c.bf),(61,.int s),(62,.int e),(84,.int lo),(85,.int hi)] (λm s=>wSs (Wn n) [.ret (.tup [(.v 84),(.v 85)])] m (qN Q) Q X s) Q X (put Y a (.tup [.int lo,.int hi])):=λg=>by
  intro b hb;show hx g _ (f1.trans (.new hb))
 exists au
 exact⟨rfl,?_⟩;exact bh k9 ?_;conv=>whnf
 split<;>rename_i e1
 ·simp at e1;show Hg (.inl e1)
 ·simp at e1;exact bh k9 ?_;conv=>whnf
  split<;>rename_i e2
  ·simp at e2;show Hg (.inr e2)
  ·simp at e2;intro b hb;show hq e1 e2 b _ (f1.trans (.new hb)) au
def Xm{n Q X c Y ra rd tk sv nt L M}(h:Bs c Y ra rd tk sv nt L M)(hx:rd=true->∀Y',Fr [] Y Y'->X 35 Y')(hq:rd=false->Q .none Y):(Wn (n+1)).call 30 [.ref c.bf] Q X Y:=by
 exact en (fd:=Ro) rfl ?_;exact bh h.bf ?_;cases rd with
 |true=>
  exact bh h.bf ?_;intro b hb;show hx rfl _ (.new hb)
 |false=>show hq rfl
def O8{n Q X c Y ra rd tk sv nt L M}(h:Bs c Y ra rd tk sv nt L M)(hq:Q (.bool (decide (sv<tk))) Y):(Wn (n+1)).call 80 [.ref c.bf] Q X Y:=by
 exact en (fd:=Sg) rfl ?_;exact bh h.bf ?_;exact bh h.bf ?_;show hq
def O9{n Q X c Y ra rd tk sv nt L M}(h:Bs c Y ra rd tk sv nt L M)(hq:Q (.int tk) Y):(Wn (n+1)).call 88 [.ref c.bf] Q X Y:=by
 exact en (fd:=Sq) rfl ?_;exact bh h.bf ?_;show hq
def Xn{n Q X c Y ra rd tk sv nt L M}(h:Bs c Y ra rd tk sv nt L M)(hq:∀Y',Bs c Y' ra rd (tk+1) sv nt L M->dE ra Y Y'->Q .none Y'):(Wn (n+1)).call 89 [.ref c.bf,.bool false] Q X Y:=by
 exact en (fd:=Ah) rfl ?_;exact bh h.bf ?_;exact sat h.bf ?_;show hq _ h.J9 (.inst h.bf)
def aj8{n Q X c Y ra rd tk sv nt L M}(h:Bs c Y ra rd tk sv nt L M)(hq:Q (.int c.N) Y):(Wn (n+1)).call 86 [.ref c.tx] Q X Y:=by
 obtain⟨xs,h1,h2,h3⟩:=h.ce;exact en (fd:=Sn) rfl ?_;exact bh h.tx ?_
 exists h1
 exact bh h.tx ?_;exact bh h.tx ?_;show Q (.int ((xs.length:Int)-c.ge+c.gs)) Y;rw[h2];show hq
def apb{n Q X c Y ra rd tk sv nt L M}(h:Bs c Y ra rd tk sv nt L M)(hq:Q (.int c.N) Y):(Wn (n+2)).call 87 [.ref c.bf] Q X Y:=by
 exact en (fd:=Sp) rfl ?_;exact bh h.bf ?_
 exists h.tx
 show aj8 h hq
def pc(tk sv:Int)(nt:Option Int):List Row:=if tk<=sv/\nt≠some sv then [.iq sv] else []
def jE(tk sv:Int)(nt:Option Int):Option Int:=if tk<=sv then some sv else nt
def ahZ{n Q X c Y ra rd tk sv nt L M}(h:Bs c Y ra rd tk sv nt L M)(hL:L.length<90000)(hq:∀Y',Bs c Y' ra rd tk sv (jE tk sv nt) (L++pc tk sv nt) M->dE ra Y Y'->Q .none Y'):(Wn (n+2)).call 95 [.ref c.ul,.bool (decide (sv<tk)),.int sv] Q X Y:=by
 exact en (fd:=Sw) rfl ?_;unfold pc jE at hq;by_cases g:sv<tk
 ·rw[decide_eq_true g];have:¬ tk<=sv:=⟨"!a:b,b<a",g⟩;rw[if_neg this,if_neg (λe=>this e.1),bG] at hq;show hq Y h .refl
 ·rw[decide_eq_false g];have g':tk<=sv:=⟨"a:b,!b<a",g⟩;exact bh h.ul ?_;have body:nt≠some sv->wSs (Wn (n+1)) [.ex (.lm .append (.attr (.v 22) 17) [(.tup [(.cS 71),(.v 10)])]),.asg (.attr (.v 22) 83) (.v 10)] [(22,.ref c.ul),(21,.bool false),(10,.int sv)] (λm s=>Q .none s) Q X Y:=λhn=>by
   rw[if_pos g',if_pos ⟨g',hn⟩] at hq;obtain⟨xs,hx,hu⟩:=h.rows;have hlen:=hu.len;exact bh h.ul ?_
   exists hx
   intro a ha;have f1:Fr [] Y (put Y a (.tup [.str 71,.int sv])):=.new ha;have h1:=h.bj f1;have et:=f1.k hx;have h2:=h1.Ka (a:=a) (r:=.iq sv) et au
   exists et
   exact⟨by unfold big;show⟨"A>100000,B>90000,A~B",hL,hlen⟩,?_⟩;exact sat h2.ul ?_;show hq _ (h2.aov (nt':=some sv)) ((f1.dI.trans .self).trans (.inst h2.ul))
  cases nt with
  |none=>show body (by simp)
  |some t=>
   conv=>whnf
   split<;>rename_i e
   ·simp at e;show body λe'=>e (by simpa using e'.symm)
   ·simp at e;clear body;subst e;rw[if_pos g',if_neg (λe'=>e'.2 rfl),bG] at hq;show hq Y h .refl
def aft{n Q X c Y ra rd tk sv nt L M v}{ev:Option Int}{s e k:Int}(h:Bs c Y ra rd tk sv nt L M)(hL:L.length<80000)(Pa:s<e)(hv:match ev with | none=>v=.none | some j=>∃b,v=.ref b/\Y b=some (.tup [.int j]))
  (hq:∀Y',Bs c Y' ra rd tk sv (jE tk sv nt) (L++pc tk sv nt++[.prop s e k ev]) M->dE ra Y Y'->Q .none Y'):(Wn (n+3)).call 92 [.ref c.ul,.int s,.int e,.int k,v,.bool (decide (sv<tk)),.int sv] Q X Y:=by
 have qo:wSs (Wn (n+2)) K1.body [(22,.ref c.ul),(61,.int s),(62,.int e),(39,.int k),(107,v),(21,.bool (decide (sv<tk))),(10,.int sv)] (qN Q) Q X Y->(Wn (n+3)).call 92 [.ref c.ul,.int s,.int e,.int k,v,.bool (decide (sv<tk)),.int sv] Q X Y:=λh=>en (fd:=K1) rfl h (h2:=by
  clear hq;cases ev with
  |none=>rw[hv];rfl
  |some j=>clear h;obtain⟨b,rfl,_⟩:=hv;rfl)
 exact qo ?_;clear qo;exact bh h.ul ?_;conv=>whnf
 split<;>rename_i g
 ·exists h.ul
  exact ahZ h ⟨"A>90000,A>80000",hL⟩ λY1 h1 f1=>?_;have nI:(pc tk sv nt).length<=1:=by unfold pc;split<;>simp
  obtain⟨xs,hx,hu⟩:=h1.rows;have hlen:=hu.len;simp at hlen;exact bh h1.ul ?_
  exists hx
  cases ev with
  |none=>
   subst hv;intro a ha;have f2:Fr [] Y1 (put Y1 a (.tup [.str 70,.int s,.int e,.int k,.none])):=.new ha;have h2:=h1.bj f2;have et:=f2.k hx;have h3:=h2.Ka (a:=a) (r:=.prop s e k none) et au
   exists et
   exact⟨by unfold big;show⟨"A>100000,B>80000,C.1,A~B+C",hL,nI,hlen⟩,?_⟩;show hq _ h3 ((f1.trans f2.dI).trans .self)
  |some j=>
   obtain⟨b,rfl,hb⟩:=hv;obtain⟨xs0,M6,_⟩:=h.rows;have Kc:=f1.tup M6 _ _ hb;intro a ha;have f2:Fr [] Y1 (put Y1 a (.tup [.str 70,.int s,.int e,.int k,.ref b])):=.new ha;have h2:=h1.bj f2;have et:=f2.k hx;have h3:=h2.Ka (a:=a) (r:=.prop s e k (some j)) et ⟨b,au,f2.k Kc⟩
   exists et
   exact⟨by unfold big;show⟨"A>100000,B>80000,C.1,A~B+C",hL,nI,hlen⟩,?_⟩;show hq _ h3 ((f1.trans f2.dI).trans .self)
 ·simp at g;show absurd Pa (cg.mpr g)
def Xo{n Q X c Y ra rd tk sv nt L M v}{ev:Option Int}{s e k:Int}(h:Bs c Y ra rd tk sv nt L M)(hL:L.length<80000)(Pa:s<e)(hv:match ev with | none=>v=.none | some j=>∃b,v=.ref b/\Y b=some (.tup [.int j]))
  (hq:∀Y',Bs c Y' ra rd tk sv (jE tk sv nt) (L++pc tk sv nt++[.prop s e k ev]) M->dE ra Y Y'->Q .none Y'):(Wn (n+4)).call 81 [.ref c.un,.ref c.bf,.int s,.int e,.int k,v] Q X Y:=by
 have fin:(Wn (n+3)).call 92 [.ref c.ul,.int s,.int e,.int k,v,.bool (decide (sv<tk)),.int sv] (λ_ s=>Q .none s) X Y:=aft h hL Pa hv λY' h' f'=>hq Y' h' f';clear hq;cases ev with
 |none=>
  subst hv;exact en (fd:=KZ) rfl ?_;exact bh h.un ?_
  exists h.ul
  exists h.bf
  exact O8 h ?_;exact bh h.bf ?_;show fin
 |some j=>
  obtain⟨b,rfl,hb⟩:=hv;exact en (fd:=KZ) rfl ?_;exact bh h.un ?_
  exists h.ul
  exists h.bf
  exact O8 h ?_;exact bh h.bf ?_;show fin
def Xp{tk sv nt}:jE tk sv (jE tk sv nt)=jE tk sv nt:=by unfold jE;split<;>rfl
def Xq{tk sv nt}:pc tk sv (jE tk sv nt)=[]:=by
 unfold pc jE;by_cases g:tk<=sv
 ·rw[if_pos g,if_neg (λe=>e.2 rfl)]
 ·rw[if_neg g,if_neg (λe=>g e.1)]
def Pb{tk sv nt}:(pc tk sv nt).length<=1:=by unfold pc;split<;>simp
inductive LT(c:Cf)(b e:Int)(p q ra c0:Nat)(Y:So)(rd:Bool)(tk sv:Int)(nt:Option Int)(L:List Row)(M:Nat->Mp)(m1:Mp)(ks:List Int)(rest:List V)(env:Env)(s:So):Prop
 |mk (k1 k2:List Int):ks=k1++k2->rest=k2.map V.int->(∃ex,env=(3,V.ref c.bf)::(86,.int b)::(62,.int e)::(66,.ref p)::(105,.ref q)::ex/\Suf [39] ex)->Bs c s ra rd tk sv (if k1=[] then nt else jE tk sv nt) (L++(if k1=[] then [] else pc tk sv nt)++k1.map λk=>.prop (b+1) (e+1) k (m1 k)) M->dE ra Y s->s c0=some (.lst (ks.map V.int))->LT c b e p q ra c0 Y rd tk sv nt L M m1 ks rest env s
def ajp{n Q X c Y ra rd tk sv nt L M p q m1 m2}{e:Int}(h:Bs c Y ra rd tk sv nt L M)(hL:L.length<70000)(Gl:b<e)(hp:GP Y p m1)(hpr:p≠ra)(iD:GP Y q m2)(aU:m1≠m2)
  (hq:∀Y' (ks:List Int),ks.length<=6->(∀k∈ks,(0<=k/\k<=2)/\m1 k≠m2 k)->(∀k,m1 k≠m2 k->k∈ks)->Bs c Y' ra rd tk sv (jE tk sv nt) (L++pc tk sv nt++ks.map λk=>.prop (b+1) (e+1) k (m1 k)) M->dE ra Y Y'->Q .none Y'):(Wn (n+5)).call 44 [.ref c.bf,.int b,.int e,.ref p,.ref q] Q X Y:=by
 exact en (fd:=RA) rfl ?_;exact bh h.bf ?_;exact Xa hp iD λc0 Y1 ks ri f1 hl Hh Ci jZ=>?_;obtain⟨xs,hx,hu⟩:=h.rows;have Hi:c0≠ra:=λe=>by nomatch e,hx,ri
 exists hl
 have h1:=h.bj f1;exact uX (LT c b e p q ra c0 Y rd tk sv nt L M m1 ks) ?_ ?_ ?_ _ _ _ ⟨[],ks,rfl,rfl,⟨[],rfl,.none _⟩,by simpa using h1,f1.dI,hl⟩
 ·rintro _ _ s ⟨_,_,_,_,_,_,_,h⟩;show h
 ·rintro v rest env s ⟨k1,k2,ek,er,aE,hb,fs,eo⟩ K hK;cases k2 with
  |nil=>cases er
  |cons k k2=>
   injection er with ev er;subst ev;have J7:GP s p m1:=hp.dI fs hpr hx;obtain⟨lp,Pg,ho,fI⟩:=J7;have vg:k1.length<=6:=by have:=congrArg dS ek;simp at this;show⟨"A.6,B.6,B~A+(C+1);1,1,-1",Hh,this⟩
   have C4:=Pb (tk:=tk) (sv:=sv) (nt:=nt);have step:∀(Y2:So) (v:V),Fr [] s Y2->(match m1 k with | none=>v=.none | some j=>∃b,v=.ref b/\Y2 b=some (.tup [.int j]))->(∀s',Bs c s' ra rd tk sv (jE tk sv nt) (L++pc tk sv nt++(k1++[k]).map λk=>.prop (b+1) (e+1) k (m1 k)) M->dE ra Y s'->s' c0=some (.lst (ks.map V.int))->∀env,(env=[(3,.ref c.bf),(86,.int b),(62,.int e),(66,.ref p),(105,.ref q),(39,.int k)])->K env s')->(Wn (n+4)).call 81 [.ref c.un,.ref c.bf,.int (b+1),.int (e+1),.int k,v] (λ_ s=>K [(3,.ref c.bf),(86,.int b),(62,.int e),(66,.ref p),(105,.ref q),(39,.int k)] s) bW Y2:=by
    intro Y2 v f2 hv gJ;exact Xo (hb.bj f2) (by simp;split<;>first | show⟨"A+(B+C)>80000,A>70000,C.6,B.1",hL,vg,C4⟩ | (simp;show⟨"A+B>80000,A>70000,B.6",hL,vg⟩)) ⟨"a+1<b+1,a<b",Gl⟩ hv λs' bS fs'=>?_
    exact gJ s' ?_ ((fs.trans f2.dI).trans fs') (fs' _ _ (f2.k eo) (λ_ _ e=>by cases e) Hi) _ rfl;by_cases g:k1=[]
    ·clear ek hb gJ vg;subst g
     simpa using bS
    ·rw[if_neg g,if_neg g] at bS;rw[Xp,Xq] at bS
     simpa using bS
   have gJ:∀s',Bs c s' ra rd tk sv (jE tk sv nt) (L++pc tk sv nt++(k1++[k]).map λk=>.prop (b+1) (e+1) k (m1 k)) M->dE ra Y s'->s' c0=some (.lst (ks.map V.int))->∀env,(env=[(3,.ref c.bf),(86,.int b),(62,.int e),(66,.ref p),(105,.ref q),(39,.int k)])->K env s':=λs' g1 g2 g3 env g4=>hK _ _ ⟨k1++[k],k2,by rw[ek];simp,er,⟨[(39,.int k)],g4,⟨[_],rfl⟩⟩,by simpa using g1,g2,g3⟩;obtain⟨ex,rfl,Hj⟩:=aE;show wSs (Wn (n+4)) _ ((3,V.ref c.bf)::(86,.int b)::(62,.int e)::(66,.ref p)::(105,.ref q)::Tactic.up ex 39 (.int k)) K Q bW s;rw[Hj.up1];exact bh hb.bf ?_
   exists hb.un
   exact get_ Pg ho (λv cc hv jK=>?_) (λhn=>?_)
   ·show step _ _ (.new jK) (by rw[<-fI k,hv];show⟨cc,rfl,au⟩) gJ
   ·show step _ _ .refl (by rw[<-fI k,hn]) gJ
 ·rintro env s ⟨k1,k2,ek,er,aE,hb,fs,eo⟩;cases k2 with
  |cons _ _=>cases er
  |nil=>
   rw[bG] at ek;subst ek;have vh:ks≠[]:=λe=>by
    exact aU (funext λk=>?_);cases oH (m1 k=m2 k) with
    |inl h=>show h
    |inr h=>have:=jZ k h;nomatch e,this
   rw[if_neg vh,if_neg vh] at hb;have:=hq s ks Hh Ci jZ hb fs;obtain⟨ex,rfl,_⟩:=aE;show this
def Dr:Row->Da
 | .cL=>.tup [.str 16]
 | .iq t=>.tup [.str 71,.int t]
 | .prop s e k none=>.tup [.str 70,.int s,.int e,.int k,.none]
 | .prop s e k (some v)=>.tup [.str 70,.int s,.int e,.int k,.tup [.int v]]
def qx.rd{Y a r}(h:qx Y a r):Rd Y (.ref a) (Dr r):=by
 cases r with
 |cL=>show .tup h.2 (.cons (.str _) .nil)
 |iq t=>show .tup h (.cons (.str _) (.cons (.int _) .nil))
 |prop s e k v=>
  cases v with
  |none=>show .tup h (.cons (.str _) (.cons (.int _) (.cons (.int _) (.cons (.int _) (.cons .none .nil)))))
  |some v=>
   obtain⟨b,h1,h2⟩:=h;show .tup h1 (.cons (.str _) (.cons (.int _) (.cons (.int _) (.cons (.int _) (.cons (.tup h2 (.cons (.int _) .nil)) .nil)))))
def xx:Row->Bool
 | .cL=>true
 |_=>false
def aoc(r:Row):Da.eq (Dr r) (Dr .cL)=xx r:=by
 cases r with
 |cL=>rfl
 |iq t=>rfl
 |prop s e k v=>cases v<;>rfl
def Kd(r:Row):Da.deep (Dr r)<20:=by
 cases r with
 |cL=>decide
 |iq t=>show dT (by kernel_rfl)
 |prop s e k v=>cases v<;>show dT (by kernel_rfl)
theorem Hk{Y a r}{K:Bool->Prop}(h:qx Y a r)(hb:Y 884=some (.tup [.str 16]))(hk:K (xx r)):eqs (.ref a) (.ref 884) K Y:=
 .inl ⟨Dr r,Dr .cL,h.rd,qx.rd (r:=.cL) ⟨rfl,hb⟩,Kd _,Kd _,by rw[aoc];show hk⟩
def UR.at_{Y vs L}(h:UR Y vs L):∀{i:Nat}{r},L[i]?=some r->∃a,vs[i]?=some (.ref a)/\qx Y a r:=by
 induction h with
 |nil=>intro i r e;simp at e
 |cons h _ ih=>
  intro i r e;cases i with
  |zero=>simp at e;subst e;show⟨_,rfl,h⟩
  |succ i=>show ih (by simpa using e)
def UR.last{Y vs L r}(h:UR Y vs (L++[r])):∃fy a,vs=fy++[.ref a]/\UR Y fy L/\qx Y a r:=by
 generalize hL:L++[r]=L' at h;induction h generalizing L with
 |nil=>simp at hL
 |cons h1 h2 ih=>
  cases L with
  |nil=>
   injection hL with e1 e2;subst e1;rw[<-e2] at h2;clear ih;cases h2;show⟨[],_,rfl,.nil,h1⟩
  |cons x L=>
   injection hL with e1 e2;subst e1;obtain⟨fy,a,rfl,g1,g2⟩:=ih e2;show⟨_::fy,a,rfl,.cons h1 g1,g2⟩
def rk(L:List Row):Bool:=match L.getLast? with
 |none=>true
 |some r=>xx r
def aog{n Q X c Y ra rd tk sv nt L M}(h:Bs c Y ra rd tk sv nt L M)(hq:Q (.bool (rk L)) Y):(Wn (n+1)).call 90 [.ref c.ul] Q X Y:=by
 obtain⟨xs,hx,hu⟩:=h.rows;exact en (fd:=Sr) rfl ?_;exact bh h.ul ?_
 exists hx
 rcases yB L with e | ⟨L',r,e⟩
 ·subst e;cases hu;show hq
 ·have e':L=L'++[r]:=by rw[e];simp
  subst e';obtain⟨fy,a,rfl,g1,g2⟩:=hu.last;have hb:rk (L'++[r])=xx r:=by unfold rk;simp
  rw[hb] at hq;have hlen:((fy++[V.ref a]).length:Int)≠0:=by simp;show λe=>⟨"_,'A+1=0",e⟩
  conv=>whnf
  split<;>rename_i g
  ·simp at g;show fO ⟨"_,'A+1=0",g⟩
  ·exact bh h.ul ?_;exact iT hx (x:=.ref a) ?_ ?_
   ·unfold ix;rw[if_neg (by decide),if_pos (by simp;show⟨"0:0-1+('A+1)"⟩)];have:((-1:Int)+((fy++[V.ref a]).length:Int)).toNat=fy.length:=by simp;show congrArg Int.toNat (⟨"0-1+('A+1)='A"⟩:-1+((fy.length:Int)+1)=fy.length)
    rw[this];simp
   ·show Hk (K:=λt=>Q (.bool t) Y) g2 h.cL hq
def boundary{n Q X c Y ra rd tk sv nt L M}(h:Bs c Y ra rd tk sv nt L M)(hL:L.length<90000)(hq:∀Y',Bs c Y' ra rd tk sv nt (if rk L then L else L++[.cL]) M->dE ra Y Y'->Q .none Y'):(Wn (n+2)).call 77 [.ref c.ul] Q X Y:=by
 obtain⟨xs,hx,hu⟩:=h.rows;have hlen:=hu.len;exact en (fd:=Sd) rfl ?_
 exists h.ul
 exact aog h ?_;cases hb:rk L with
 |true=>
  rw[hb] at hq;show hq Y h .refl
 |false=>
  rw[hb] at hq;exact bh h.ul ?_
  exists hx
  exists hx
  exact⟨by unfold big;show⟨"A>100000,B>90000,A~B",hL,hlen⟩,?_⟩;show hq _ (h.Ka hx (r:=.cL) ⟨rfl,h.cL⟩) .self
def ajm{n Q X c Y ra rd tk sv nt L M}(h:Bs c Y ra rd tk sv nt L M)(hq:∀Y',Bs c Y' ra rd tk tk nt L M->dE ra Y Y'->Q .none Y'):(Wn (n+1)).call 85 [.ref c.bf,.bool false] Q X Y:=by
 exact en (fd:=K0) rfl ?_;exact bh h.bf ?_;exact sat h.bf ?_;show hq _ h.J9 (.inst h.bf)
end Tactic
namespace Tactic
open Classical in
def fl(F:Mp->Mp)(R:List (Int×Int×Mp)):List (Int×Int×Mp):=R.filter λr=>decide (F r.2.2≠r.2.2)
def turned(F:Mp->Mp)(R:List (Int×Int×Mp)):List (Int×Int×Mp):=R.map λr=>(r.1,r.2.1,F r.2.2)
def mapM(M:Nat->Mp)(b e:Int)(F:Mp->Mp):Nat->Mp:=λi=>if b<=(i:Int)/\(i:Int)<e then F (M i) else M i
def Hl{F:Mp->Mp}{r R}(h:F r.2.2≠r.2.2):fl F (r::R)=r::fl F R:=by
 unfold fl;rw[oN];simpa using h
def Hm{F:Mp->Mp}{r R}(h:F r.2.2=r.2.2):fl F (r::R)=fl F R:=by
 unfold fl;rw[oO];simpa using h
def Ke{F:Mp->Mp}{A B}:fl F (A++B)=fl F A++fl F B:=by unfold fl;rw[lZ]
def EC{F:Mp->Mp}{R r}:r∈fl F R↔r∈R/\F r.2.2≠r.2.2:=by unfold fl;rw[gV];simp
def Hn{F:Mp->Mp}{R}:(fl F R).length<=R.length:=by unfold fl;show List.length_filter_le _ _
def Ph{M0 b e R}(F:Mp->Mp)(h:lg M0 b e R):∀M1:Nat->Mp,(∀i:Nat,b<=(i:Int)->(i:Int)<e->M1 i=M0 i)->EA M1 (turned F (fl F R))=mapM M1 b e F:=by
 induction h with
 |nil=>
  intro M1 _
  funext i
  show M1 i=mapM M1 _ _ F i;unfold mapM;rw[if_neg (λqq=>⟨"_,a:'A,'A<a;0,1,1",qq.1,qq.2⟩)]
 |@cons b c e m R g1 g2 g3 ih=>
  intro M1 hM;have hle:=g3.le;by_cases hF:F m=m
  ·rw[Hm (r:=(b,c,m)) hF,ih M1 λi i1 i2=>hM i ⟨"a:'A,a<b,b:'A",g1,i1⟩ i2]
   funext i
   unfold mapM;by_cases q:c<=(i:Int)/\(i:Int)<e
   ·rw[if_pos q,if_pos ⟨⟨"a:'A,a<b,b:'A",g1,q.1⟩,⟨"'A<a,'A<a",q.2⟩⟩]
   ·rw[if_neg q];by_cases q2:b<=(i:Int)/\(i:Int)<e
    ·rw[if_pos q2,hM i q2.1 q2.2,g2 i q2.1 (r6.mp λx=>q ⟨x,q2.2⟩),hF]
    ·rw[if_neg q2]
  ·rw[Hl (r:=(b,c,m)) hF];show EA (setM M1 b c (F m)) (turned F (fl F R))=_;rw[ih _ λi i1 i2=>by unfold setM;rw[if_neg (λqq=>⟨"_,a:'A,'A<a;0,1,1",i1,qq.2⟩)];show hM i ⟨"a:'A,a<b,b:'A",g1,i1⟩ i2]
   funext i
   unfold mapM setM;by_cases q:c<=(i:Int)/\(i:Int)<e
   ·rw[if_pos q,if_neg (λqq=>⟨"_,a:'A,'A<a;0,1,1",q.1,qq.2⟩),if_pos ⟨⟨"a:'A,a<b,b:'A",g1,q.1⟩,⟨"'A<a,'A<a",q.2⟩⟩]
   ·rw[if_neg q];by_cases q2:b<=(i:Int)/\(i:Int)<c
    ·rw[if_pos q2,if_pos ⟨⟨"a:'A,a:'A",q2.1⟩,⟨"'A<a,b:a,'A<b",hle,q2.2⟩⟩,hM i q2.1 ⟨"'A<a,b:a,'A<b",hle,q2.2⟩,g2 i q2.1 q2.2]
    ·rw[if_neg q2,if_neg λz=>q ⟨cg.mp λx=>q2 ⟨z.1,x⟩,z.2⟩]
def Xr{M b e R}{F:Mp->Mp}(h:lg M b e R)(hn:fl F R=[]):mapM M b e F=M:=by
 have:=Ph F h M λ_ _ _=>rfl;rw[hn] at this;show this.symm
class inductive R4(ra cr:Nat)(Y s:So)(F:Mp->Mp):List V->List (Int×Int×Mp)->Prop
 |nil:R4 ra cr Y s F [] []
 |cons {a b e p q m vs R}:s a=some (.tup [.int b,.int e,.ref p,.ref q])->ef ra Y p m->q≠ra->q≠cr->GP s q (F m)->R4 ra cr Y s F vs R->R4 ra cr Y s F (.ref a::vs) ((b,e,m)::R)
@[elab_as_elim] def R4.c{ra cr Y s F v vs l}{P:V->List (Int×Int×Mp)->Prop}(h:R4 ra cr Y s F (v::vs) l)(k:∀a b e p q m R,s a=some (.tup [.int b,.int e,.ref p,.ref q])->ef ra Y p m->q≠ra->q≠cr->GP s q (F m)->R4 ra cr Y s F vs R->P (.ref a) ((b,e,m)::R)):P v l:=by
 cases h with | cons a b c d e f=>show k _ _ _ _ _ _ _ a b c d e f
def R4.app{ra cr Y s F vs R fy R'}(h:R4 ra cr Y s F vs R)(h':R4 ra cr Y s F fy R'):R4 ra cr Y s F (vs++fy) (R++R'):=by
 induction h with
 |nil=>show h'
 |cons h1 h2 h3 h4 h5 _ ih=>show .cons h1 h2 h3 h4 h5 ih
def R4.len{ra cr Y s F vs R}(h:R4 ra cr Y s F vs R):vs.length=R.length:=by
 induction h with
 |nil=>rfl
 |cons _ _ _ _ _ _ ih=>simp[ih]
def R4.fr{ra cr Y s s' F vs R}(h:R4 ra cr Y s F vs R)(f:∀b o,s b=some o->(∀c fs,o≠.inst c fs)->b≠ra->b≠cr->s' b=some o)(ht:∀a xs,s a=some (.tup xs)->s' a=some (.tup xs)):R4 ra cr Y s' F vs R:=by
 induction h with
 |nil=>show .nil
 |cons h1 h2 h3 h4 h5 _ ih=>
  obtain⟨l,⟨vs,g1,g2⟩,g3,g4⟩:=h5;show .cons (ht _ _ h1) h2 h3 h4 ⟨l,⟨vs,f _ _ g1 (λ_ _ e=>by cases e) h3 h4,g2.fr ht⟩,g3,g4⟩ ih
structure vo(N:Int)(M M':Nat->Mp)(G:List Row):Prop where
 ok:∀r∈G,∃s e k v,r=.prop s e k v/\1<=s/\s<e/\e<=N+1/\0<=k/\k<=2/\∀i:Nat,s-1<=(i:Int)->(i:Int)<e-1->M i k=v
 all:∀(i:Nat) k,M' i k≠M i k->∃s e v,Row.prop s e k v∈G/\s-1<=(i:Int)/\(i:Int)<e-1
def RL.bj{ra Y Y' vs R}(h:RL ra Y vs R)(f:Fr [] Y Y'):RL ra Y' vs R:=by
 induction h with
 |nil=>show .nil
 |cons h1 h2 _ ih=>show .cons (f _ _ h1 (by simp)) (h2.bj f) ih
def lg.find{M b e R}(h:lg M b e R):∀i:Nat,b<=(i:Int)->(i:Int)<e->∃r∈R,r.1<=(i:Int)/\(i:Int)<r.2.1:=by
 induction h with
 |nil=>intro i h1 h2;show absurd h2 (cg.mpr h1)
 |@cons b c e m R g1 g2 g3 ih=>
  intro i h1 h2;by_cases q:(i:Int)<c
  ·show⟨_,.head _,h1,q⟩
  ·obtain⟨r,hr,hh⟩:=ih i ⟨"a:'A,!'A<a",q⟩ h2;show⟨r,.tail _ hr,hh⟩
abbrev A9(c:Cf)(s_ e:Int)(aw:List Nat)(bd:E)(aG:Env)(lo hi:Int)(cr:Nat)(ex:Env):Env:=(3,.ref c.bf)::(61,.int s_)::(62,.int e)::(89,.dz aw bd aG)::(84,.int lo)::(85,.int hi)::(17,.ref cr)::ex
def Te(c:Cf)(s_ e:Int)(aw:List Nat)(bd:E)(aG:Env)(lo hi:Int)(cr:Nat)(env:Env):Prop:=∃ex,env=A9 c s_ e aw bd aG lo hi cr ex/\Suf [86,87,63,88] ex
theorem Xs{c s_ e aw bd aG lo hi cr ex x y z u}(h:Suf [86,87,63,88] ex):Tactic.up (Tactic.up (Tactic.up (Tactic.up (A9 c s_ e aw bd aG lo hi cr ex) 86 x) 87 y) 63 z) 88 u=A9 c s_ e aw bd aG lo hi cr [(86,x),(87,y),(63,z),(88,u)]:=
 congrArg (A9 c s_ e aw bd aG lo hi cr) h.four
inductive LA(ra cr:Nat)(Y Y2:So)(F:Mp->Mp)(R:List (Int×Int×Mp))(T:Env->Prop)(rest:List V)(env:Env)(s0:So):Prop
 |mk (Ra Rb dM):R=Ra++Rb->jD ra Y Y2 rest Rb->T env->Fr [cr] Y2 s0->s0 cr=some (.lst dM)->R4 ra cr Y s0 F dM (fl F Ra)->LA ra cr Y Y2 F R T rest env s0
inductive LG(ra cr:Nat)(Y s5:So)(F:Mp->Mp)(R:List (Int×Int×Mp))(tf:List (Int×Int×Mp)->List (Int×Int×Mp))(rest acc:List V)(s:So):Prop
 |mk (Ra Rb):R=Ra++Rb->R4 ra cr Y s F rest Rb->RL ra s acc (tf Ra)->Fr [] s5 s->LG ra cr Y s5 F R tf rest acc s
inductive LB(c:Cf)(Y s1:So)(ra cr:Nat)(rd:Bool)(tk sv:Int)(nt:Option Int)(L:List Row)(M:Nat->Mp)(F:Mp->Mp)(R:List (Int×Int×Mp))(T:Env->Prop)(rest:List V)(env:Env)(s:So):Prop
 |mk (Ra Rb G):R=Ra++Rb->R4 ra cr Y s F rest Rb->T env->Bs c s ra rd tk sv (if Ra=[] then nt else jE tk sv nt) (L++(if Ra=[] then [] else pc tk sv nt)++G) M->dE ra s1 s->G.length<=6 * Ra.length->(∀r∈G,∃b e m k,(b,e,m)∈R/\r=.prop (b+1) (e+1) k (m k)/\0<=k/\k<=2)->(∀b e m,(b,e,m)∈Ra->∀k,m k≠F m k->.prop (b+1) (e+1) k (m k)∈G)->LB c Y s1 ra cr rd tk sv nt L M F R T rest env s
def ajb{n Q X c Y ra rd tk sv nt L M}{F:Mp->Mp}{aw:List Nat}{bd:E}{aG:Env}{s_ e:Int}(h:Bs c Y ra rd tk sv nt L M)(hL:L.length<50000)(dG:0<=c.N)(hN:c.N<=8)
  (iR:∀s p m Q',Fr [] Y s->GP s p m->(∀q s',s q=none->Fr [] s s'->GP s' q (F m)->Q' (.ref q) s')->(Wn (n+9)).nS aw bd aG [.ref p] Q' s)
  (et:(eO s_ e<1\/c.N+1<fA s_ e)->∀Y',Fr [] Y Y'->X 34 Y')
  (Cp:1<=eO s_ e->fA s_ e<=c.N+1->mapM M (eO s_ e-1) (fA s_ e-1) F≠M->rd=true->∀Y',Fr [] Y Y'->X 35 Y')
  (gj:1<=eO s_ e->fA s_ e<=c.N+1->mapM M (eO s_ e-1) (fA s_ e-1) F=M->∀Y',Fr [] Y Y'->Q (.bool false) Y')
  (lE:1<=eO s_ e->fA s_ e<=c.N+1->mapM M (eO s_ e-1) (fA s_ e-1) F≠M->rd=false->∀Y' G,Bs c Y' ra rd (tk+1) sv (jE tk sv nt) (L++pc tk sv nt++G) (mapM M (eO s_ e-1) (fA s_ e-1) F)->vo c.N M (mapM M (eO s_ e-1) (fA s_ e-1) F) G->G≠[]->G.length<=60->dE ra Y Y'->Q (.bool true) Y')
  : (Wn (n+10)).call 26 [.ref c.bf,.int s_,.int e,.dz aw bd aG] Q X Y:=by
 have Ho:eO s_ e<=fA s_ e:=Xk;exact en (fd:=vP) rfl ?_;exact Xl h et λb1 b2 a Y1 f1 ha=>?_;have Pj:=Cp b1 b2;have Pk:=gj b1 b2;have Pl:=lE b1 b2;clear et Cp gj lE;generalize eO s_ e=lo at *;generalize fA s_ e=hi at *
 exists ha
 exact⟨rfl,?_⟩;intro cr Hp;have Hq:Y cr=none:=by
  cases hs:Y cr with
  |none=>rfl
  |some o=>nomatch f1 _ _ hs (by simp),Hp
 obtain⟨xs,jL,hu⟩:=h.rows;have rn:cr≠ra:=λe=>by nomatch e,jL,Hq
 have f2:Fr [] Y (put Y1 cr (.lst [])):=f1.trans (.new Hp);have h2:=h.bj f2;exact bh h2.bf ?_;exact adc (Yp:=Y) h.tree f2 ⟨"a:800,a:8",hN⟩ ⟨"0:a-1,1:a",b1⟩ ⟨"a-1:b-1,a:b",Ho⟩ ⟨"a-1:b,a:b+1",b2⟩ h2.tp λc1 Y2 vs R iH f3 gM hR hC=>?_;have Bz:=f2.trans f3;have C5:c1≠cr:=λe=>by nomatch e,au,iH
 have vp:Y2 cr=some (.lst []):=f3 _ _ au (by simp);have vq:=hC.len;have old:∀s,Fr [cr] Y2 s->Fr [] Y s:=λs fs b o hb _=>fs b o (Bz b o hb (by simp)) λhm=>by
  simp at hm
  nomatch hm,Hq,hb
 have qy:∀(env:Env) (s0:So) (dM:List V),Te c s_ e aw bd aG lo hi cr env->Fr [cr] Y2 s0->s0 cr=some (.lst dM)->R4 ra cr Y s0 F dM (fl F R)->wSs (Wn (n+9)) (vP.body.drop 3) env (qN Q) Q X s0:=by
  intro env s0 dM aE fs eo h4;have f0:=old s0 fs;have h0:=h.bj f0;have vr:=h4.len;have oz:=Hn (F:=F) (R:=R);have hR8:(fl F R).length<=8:=⟨"A.8,a:8,1:b,c:a+1,'B:c-1-(b-1),A.B",hN,b1,b2,vq,oz⟩;have oA:∀r∈fl F R,lo-1<=r.1/\r.1<r.2.1/\r.2.1<=hi-1/\∀i:Nat,r.1<=(i:Int)->(i:Int)<r.2.1->M i=r.2.2:=λr hr=>hC.mem r (EC.mp hr).1;have vt:=Ph F hC M λ_ _ _=>rfl;have qz:fl F R≠[]->mapM M (lo-1) (hi-1) F≠M:=λaU em=>by
   obtain⟨r,rs,hr⟩:=oM aU;have hm:=EC.mp (show r∈fl F R by rw[hr];show .head _);have hh:=oA r (by rw[hr];show .head _);have iU:=congrFun em r.1.toNat;unfold mapM at iU;rw[if_pos ⟨⟨"a-1:'A,a-1:b,'A=b;1,1,-1",hh.1,aH ⟨"0:a,1:b,b-1:a",b1,hh.1⟩⟩,⟨"'A<a-1,b<c,c:a-1,'A=b",hh.2.1,hh.2.2.1,aH ⟨"0:a,1:b,b-1:a",b1,hh.1⟩⟩⟩,hh.2.2.2 r.1.toNat ⟨"a:'A,'A=a;1,-1",aH ⟨"0:a,1:b,b-1:a",b1,hh.1⟩⟩ ⟨"'A<a,b<a,'A=b",hh.2.1,aH ⟨"0:a,1:b,b-1:a",b1,hh.1⟩⟩] at iU;show hm.2 iU
  have vw:∀(env:Env) (s5:So) (G:List Row),Te c s_ e aw bd aG lo hi cr env->rd=false->fl F R≠[]->Bs c s5 ra rd tk sv (jE tk sv nt) (L++pc tk sv nt++G) M->dE ra Y s5->s5 cr=some (.lst dM)->R4 ra cr Y s5 F dM (fl F R)->G.length<=6 * (fl F R).length->(∀r∈G,∃b e m k,(b,e,m)∈fl F R/\r=.prop (b+1) (e+1) k (m k)/\0<=k/\k<=2)->(∀b e m,(b,e,m)∈fl F R->∀k,m k≠F m k->Row.prop (b+1) (e+1) k (m k)∈G)->wSs (Wn (n+9)) (vP.body.drop 7) env (qN Q) Q X s5:=by
   intro env s5 G aE Ba aU hb Kf xE Kg wg ED Bb;have Pm:∀r∈turned F (fl F R),0<=r.1/\r.1<r.2.1/\r.2.1<=c.N:=λr hr=>by
    obtain⟨r0,Cv,rfl⟩:=aQ.mp hr;have:=oA r0 Cv;show⟨by show 0<=r0.1;show⟨"0:a,1:b,b-1:a",b1,this.1⟩,this.2.1,by show r0.2.1<=c.N;show⟨"a:b,c:b+1,a:c-1",b2,this.2.2.1⟩⟩
   have ro:∀(s6:So) (c7:Nat) (acc:List V),Fr [] s5 s6->s6 c7=some (.lst acc)->RL ra s6 acc (turned F (fl F R))->(Wn (n+9)).call 45 [.ref c.tp,.ref c7] (λ_ s=>wSs (Wn (n+9)) (vP.body.drop 8) env (qN Q) Q X s) X s6:=by
    intro s6 c7 acc f6 jF Pn;have nL:=hb.bj f6;obtain⟨zs,vx,_⟩:=nL.rows;exact Xi (n:=n) nL.tree ⟨"a:800,a:8",hN⟩ nL.tp ⟨zs,vx⟩ jF Pn Pm λbv s7 Hr f7=>?_;rw[vt] at Hr;have wh:=nL.j8 f7 Hr;obtain⟨rv,nz⟩:=nL.tree.ex.choose_spec.1.rt;have rH:=(f6.dI (ra:=ra)).trans (f7.dI nz);have grp:vo c.N M (mapM M (lo-1) (hi-1) F) G:=by
     constructor
     ·intro r hr;obtain⟨b,e',m,k,g1,g2,g3,g4⟩:=ED r hr;obtain⟨w1,w2,w3,w4⟩:=oA _ g1;exact⟨b+1,e'+1,k,m k,g2,?_,?_,?_,g3,g4,λi i1 i2=>?_⟩
      ·have:lo-1<=b:=w1;show⟨"1:a+1,1:b,b-1:a",b1,w1⟩
      ·have:b<e':=w2;show⟨"a+1<b+1,a<b",w2⟩
      ·have:e'<=hi-1:=w3;show⟨"a+1:b+1,c:b+1,a:c-1",b2,w3⟩
      ·rw[w4 i (by show b<=(i:Int);show⟨"a:'A,a+1-1:'A",i1⟩) (by show(i:Int)<e';show⟨"'A<a,'A<a+1-1",i2⟩)]
     ·intro i k hk;unfold mapM at hk;by_cases q:lo-1<=(i:Int)/\(i:Int)<hi-1
      ·rw[if_pos q] at hk;obtain⟨r,hr,r1,r2⟩:=hC.find i q.1 q.2;have hm:=(hC.mem r hr).2.2.2 i r1 r2;rw[hm] at hk;have hF:F r.2.2≠r.2.2:=λe=>hk (by rw[e]);exact⟨r.1+1,r.2.1+1,r.2.2 k,Bb r.1 r.2.1 r.2.2 (EC.mpr ⟨hr,hF⟩) k (aj hk),⟨"a+1-1:'A,a:'A",r1⟩,⟨"'A<a+1-1,'A<a",r2⟩⟩
      ·rw[if_neg q] at hk;show absurd rfl hk
    have Gne:G≠[]:=λe=>by
     obtain⟨r,rs,hr⟩:=oM aU;have q8:r∈fl F R:=by rw[hr];show .head _
     have hF:=(EC.mp q8).2;exact hF (funext λk=>?_);cases oH (r.2.2 k=F r.2.2 k) with
     |inl h=>show h.symm
     |inr h=>
      have:=Bb r.1 r.2.1 r.2.2 q8 k h
      nomatch e,this
    have fin:∀env,Te c s_ e aw bd aG lo hi cr env->wSs (Wn (n+9)) (vP.body.drop 8) env (qN Q) Q X s7:=by
     rintro env ⟨ex,rfl,hx⟩
     exists wh.bf
     exact Xn wh λs8 C6 f8=>?_;exact bh C6.bf ?_
     exists C6.ls.1
     exact⟨by decide,λc9 Xu=>?_⟩
     exists au
     exact⟨au,?_⟩;show Pl (qz aU) Ba _ G (C6.bj (.new Xu)) grp Gne ⟨"A.60,a:8,1:b,c:a+1,'B:c-1-(b-1),C.B,A.6*C;1,6,6,6,6,6,1",hN,b1,b2,vq,oz,wg⟩ (((Kf.trans rH).trans f8).trans (Fr.CZ Xu).dI)
    show fin env aE
   have ga:wE (Wn (n+9)) (.comp (.tup [(.v 86),(.v 87),(.v 88)]) [86,87,63,88] (.v 17) []) env (λv s=>wEs (Wn (n+9)) [] env (λvs s=>(Wn (n+9)).call 45 (.ref c.tp::v::vs) (λ_ s=>wSs (Wn (n+9)) (vP.body.drop 8) env (qN Q) Q X s) X s) X s) X s5:=by
    have Bc:lk env 17=some (.ref cr):=by clear ro;obtain⟨ex,rfl,_⟩:=aE;rfl
    show(match lk env 17 with | some (.dz _ _ _)=>False | some v=>vL _ v s5 | aP=>False)
    exact DF Bc (vN xE ?_);exact AJ (LG ra cr Y s5 F (fl F R) (turned F)) ?_ ?_ ?_ _ _ _ ⟨[],fl F R,rfl,Kg,.nil,.refl⟩
    ·rintro _ _ s ⟨_,_,_,_,_,fs⟩;show fs _ _ xE (by simp)
    ·rintro v rest acc s ⟨Ra,Rb,eR,hr,hl,fs⟩ K-hK;revert eR;exact hr.c λa b e' p q m Rb g1 g2 g3 g4 g5 g6 eR=>?_;exact J0 g1 ?_;have fin:∀c6,s c6=none->K (some (.ref c6)) (put s c6 (.tup [.int b,.int e',.ref q])):=λc6 oy=>by
      have f6:Fr [] s (put s c6 (.tup [.int b,.int e',.ref q])):=.new oy;exact hK _ _ ⟨Ra++[(b,e',m)],Rb,by rw[eR];simp,g6.fr (λb o hb _ _ _=>f6 b o hb (by simp)) (λa xs ha=>f6 a _ ha (by simp)),?_,fs.trans f6⟩;have e1:turned F (Ra++[(b,e',m)])=turned F Ra++[(b,e',F m)]:=by unfold turned;simp
      rw[e1];show(hl.bj f6).app (.cons au ⟨g3,g5.bj f6⟩ .nil)
     clear Bc ro;obtain⟨ex,rfl,hx⟩:=aE;rw[Xs hx];show fin
    ·rintro acc s ⟨Ra,Rb,eR,hr,hl,fs⟩;cases hr;rw[bG] at eR;rw[<-eR] at hl;have xH:=hl.len;have:(turned F (fl F R)).length=(fl F R).length:=by unfold turned;simp
     exact⟨by unfold big;show⟨"A>100000,a:8,1:b,c:a+1,'B:c-1-(b-1),C.B,A~D,D~C",hN,b1,b2,vq,oz,xH,this⟩,λc7 jF=>?_⟩;show ro _ c7 acc (fs.trans (.new jF)) au (hl.bj (.new jF))
   clear ro;obtain⟨ex,rfl,hx⟩:=aE;exact bh hb.bf ?_;show ga
  have C7:rd=false->fl F R≠[]->wSs (Wn (n+9)) (vP.body.drop 5) env (qN Q) Q X s0:=by
   intro Ba aU;have go:∀s1:So,Fr [] s0 s1->wSs (Wn (n+9)) (vP.body.drop 6) env (qN Q) Q X s1:=by
    intro s1 f5;have h1:=h0.bj f5;have Xv:=h4.fr (s':=s1) (λb o hb _ _ _=>f5 b o hb (by simp)) λa xs ha=>f5 a _ ha (by simp);have jX:=f5 _ _ eo (by simp);have lp:vM (Wn (n+9)) (.v 17) env (wE (Wn (n+9)) (.v 17) env) (λvs Gg s=>loop (λv m K s=>jI [86,87,63,88] v m (λm'=>wSs (Wn (n+9)) [.ex (.call 44 [(.v 3),(.v 86),(.v 87),(.v 63),(.v 88)])] m' K Q bW s) s) Gg (λm s=>wSs (Wn (n+9)) (vP.body.drop 7) m (qN Q) Q X s) vs env s) X s1:=by
     have Bc:lk env 17=some (.ref cr):=by obtain⟨ex,rfl,_⟩:=aE;rfl
     show(match lk env 17 with | some (.dz _ _ _)=>False | some v=>vL _ v s1 | aP=>False)
     exact DF Bc (vN jX ?_);exact uX (LB c Y s1 ra cr rd tk sv nt L M F (fl F R) (Te c s_ e aw bd aG lo hi cr)) ?_ ?_ ?_ _ _ _ ⟨[],fl F R,[],rfl,Xv,aE,by simpa using h1,.refl,by simp,by simp,by simp⟩
     ·rintro _ _ s ⟨_,_,_,_,_,_,_,fs,_⟩;show fs _ _ jX (λ_ _ e=>by cases e) rn
     ·rintro v rest env s5 ⟨Ra,Rb,G,eR,hr,aE,hb,fs,wg,ED,Bb⟩ K hK;obtain⟨ys,Hs,_⟩:=h1.rows;revert eR;exact hr.c λa b e' p q m Rb g1 g2 g3 g4 g5 g6 eR=>?_;exact J0 g1 ?_;have q8:(b,e',m)∈fl F R:=by rw[eR];simp
      have hm:=oA _ q8;have hF:=(EC.mp q8).2;have gp:GP s5 p m:=(g2.2.bj (f0.trans f5)).dI fs g2.1 Hs;have vy:Ra.length<=8:=by have:=congrArg dS eR;simp at this;show⟨"A.8,a:8,1:b,c:a+1,'B:c-1-(b-1),C.B,C~A+(D+1);1,1,1,1,1,1,-1",hN,b1,b2,vq,oz,this⟩
      have C4:=Pb (tk:=tk) (sv:=sv) (nt:=nt);have C8:∀oB,(oB=[(3,.ref c.bf),(61,.int s_),(62,.int e),(89,.dz aw bd aG),(84,.int lo),(85,.int hi),(17,.ref cr),(86,.int b),(87,.int e'),(63,.ref p),(88,.ref q)])->(Wn (n+9)).call 44 [.ref c.bf,.int b,.int e',.ref p,.ref q] (λ_ s=>K oB s) bW s5:=by
       rintro oB rfl;exact ajp hb (by simp;split<;>first | show⟨"A+(B+C)>70000,A>50000,C.6*D,D.8,B.1;1,1,1,6,1",hL,wg,vy,C4⟩ | (simp;show⟨"A+B>70000,A>50000,B.6*C,C.8;1,1,1,6",hL,wg,vy⟩)) hm.2.1 gp g2.1 g5 (λe=>hF e.symm) λs6 ks k6 k1 k2 nL f6=>?_
       exact hK _ _ ⟨Ra++[(b,e',m)],Rb,G++ks.map λk=>.prop (b+1) (e'+1) k (m k),by rw[eR];simp,?_,⟨_,rfl,⟨[_,_,_,_],rfl⟩⟩,?_,fs.trans f6,by simp;show⟨"A+B.6*(C+1),A.6*C,B.6",wg,k6⟩,λr hr=>?_,λb2 e2 m2 h2 k hk=>?_⟩
       ·obtain⟨zs,vx,_⟩:=hb.rows;show g6.fr (λb o hb hn hr _=>f6 b o hb hn hr) (f6.tup vx)
       ·have C9:Ra++[(b,e',m)]≠[]:=by simp
        rw[if_neg C9,if_neg C9];by_cases gn:Ra=[]
        ·clear eR vy C9;subst gn;have hG0:G=[]:=eu.mp (by simpa using wg);clear wg ED Bb hb;subst hG0
         simpa using nL
        ·rw[if_neg gn,if_neg gn] at nL;rw[Xp,Xq] at nL
         simpa using nL
       ·rcases aJ.mp hr with hr | hr
        ·show ED r hr
        ·obtain⟨k,hk,rfl⟩:=aQ.mp hr;show⟨b,e',m,k,q8,rfl,(k1 k hk).1⟩
       ·rcases aJ.mp h2 with h2 | h2
        ·show cj _ (Bb _ _ _ h2 k hk)
        ·simp at h2;obtain⟨rfl,rfl,rfl⟩:=h2;show cQ _ (aQ.mpr ⟨k,k2 k hk,rfl⟩)
      obtain⟨ex,rfl,hx⟩:=aE;rw[Xs hx];show C8 _ rfl
     ·rintro env s5 ⟨Ra,Rb,G,eR,hr,aE,hb,fs,wg,ED,Bb⟩;cases hr;rw[bG] at eR;rw[<-eR] at wg Bb hb;rw[if_neg aU,if_neg aU] at hb;obtain⟨ys,Hs,_⟩:=h1.rows;show vw env s5 G aE Ba aU hb ((f0.trans f5).dI.trans fs) (fs _ _ jX (λ_ _ e=>by cases e) rn) (Xv.fr (λb o hb hn hr _=>fs b o hb hn hr) (fs.tup Hs)) wg ED Bb
    show lp
   obtain⟨ex,rfl,hx⟩:=aE;exact bh h0.bf ?_
   exists h0.ls.1
   exact⟨by decide,λc5 Pp=>?_⟩
   exists au
   exact⟨au,?_⟩;show go _ (.new Pp)
  obtain⟨ex,rfl,hx⟩:=aE
  exists eo
  conv=>whnf
  split<;>rename_i g
  ·simp at g;have:fl F R=[]:=eu.mp (by rw[<-vr,g];rfl);show Pk (Xr hC this) s0 f0
  ·simp at g;have aU:fl F R≠[]:=λe=>by rw[e] at vr;show g (eu.mp vr)
   exact Xm h0 (λe Y' f'=>Pj (qz aU) e Y' (f0.trans f')) λBa=>?_;show C7 Ba aU
 exists gM
 exact uX (LA ra cr Y Y2 F R (Te c s_ e aw bd aG lo hi cr)) ?_ ?_ ?_ _ _ _ ⟨[],R,[],rfl,hR,⟨[],rfl,.none _⟩,.refl,vp,.nil⟩
 ·rintro _ _ s0 ⟨_,_,_,_,_,_,fs,_⟩;show fs _ _ gM (by simpa using C5)
 ·rintro v rest env s0 ⟨Ra,Rb,dM,eR,hr,aE,fs,eo,h4⟩ K hK;revert eR;exact hr.c λa b e' p m Rb g1 g2 g3 eR=>?_;have Dd:∀a xs,Y2 a=some (.tup xs)->s0 a=some (.tup xs):=λa xs ha=>fs _ _ ha λhm=>by simp at hm;nomatch hm,vp,ha
  have vr:=h4.len;have Pq:dM.length<=8:=by
   have a1:=Hn (F:=F) (R:=Ra);have a2:=congrArg dS eR;simp at a2;show⟨"A.8,a:8,1:b,c:a+1,'B:c-1-(b-1),A~C,C.D,B~D+(E+1);1,1,1,1,1,1,1,-1",hN,b1,b2,vq,vr,a1,a2⟩
  exact JZ (Dd _ _ g1) ?_;have Df:GP s0 p m:=g2.2.bj (old s0 fs);have turn:∀(q:Nat) (s1:So),s0 q=none->Fr [] s0 s1->GP s1 q (F m)->wSs (Wn (n+9)) [.iff (.cmp .gt (.bi .len [(.call 43 [(.v 63),(.v 88)])]) (.cI 0)) [.ex (.lm .append (.v 17) [(.tup [(.v 86),(.v 87),(.v 63),(.v 88)])])] []] [(3,.ref c.bf),(61,.int s_),(62,.int e),(89,.dz aw bd aG),(84,.int lo),(85,.int hi),(17,.ref cr),(86,.int b),(87,.int e'),(63,.ref p),(88,.ref q)] K Q bW s1:=by
   intro q s1 gj fq gq;have Ht:s1 cr=some (.lst dM):=fq _ _ eo (by simp);have Hu:q≠cr:=λe=>by nomatch e,eo,gj
   have Pr:q≠ra:=λe=>by nomatch e,old s0 fs _ _ jL (by simp),gj
   exact Xa (Df.bj fq) gq λc3 s2 ks nE fc vh Hh Ci jZ=>?_;have EF:=fq.trans fc;have Hv:=fc _ _ Ht (by simp);have gq2:=gq.bj fc
   exists vh
   by_cases D3:ks=[]
   ·clear Ci Hh vh;subst D3;have hF:F m=m:=by
     funext k
     cases oH (m k=F m k) with
     |inl h=>show h.symm
     |inr h=>cases jZ k h
    exact hK _ _ ⟨Ra++[(b,e',m)],Rb,dM,by rw[eR];simp,g3,⟨_,rfl,⟨[_,_,_,_],rfl⟩⟩,fs.trans (EF.mono (by simp)),Hv,?_⟩;rw[Ke,Hm (r:=(b,e',m)) hF];show R4 ra cr Y s2 F dM (fl F Ra++[]);rw[bG];show h4.fr (λb o hb _ _ _=>EF b o hb (by simp)) λa xs ha=>EF a _ ha (by simp)
   ·have hF:F m≠m:=λe=>by
     clear jZ Hh vh;obtain⟨k,ks,rfl⟩:=oM D3;show(Ci k (.head _)).2 (by rw[e])
    conv=>whnf
    split<;>rename_i g
    ·exists Hv
     intro c4 rR;have c4cr:cr≠c4:=λe=>by rw[<-e,Hv] at rR;cases rR
     have f4:Fr [] s2 (put s2 c4 (.tup [.int b,.int e',.ref p,.ref q])):=.new rR
     exists (f4 _ _ Hv (by simp))
     exact⟨by unfold big;show⟨"A>100000,A.8",Pq⟩,?_⟩;have vz:Fr [cr] s0 (put (put s2 c4 (.tup [.int b,.int e',.ref p,.ref q])) cr (.lst (dM++[.ref c4]))):=((EF.trans f4).mono (by simp)).trans (.put (by simp));have Pu:=gq2.bj f4;have Dg:∀a xs,put s2 c4 (.tup [.int b,.int e',.ref p,.ref q]) a=some (.tup xs)->put (put s2 c4 (.tup [.int b,.int e',.ref p,.ref q])) cr (.lst (dM++[.ref c4])) a=some (.tup xs):=λa xs ha=>by
      rw[ao λe=>by nomatch e,f4 _ _ Hv (by simp),ha];show ha
     have Hw:∀a o,put s2 c4 (.tup [.int b,.int e',.ref p,.ref q]) a=some o->a≠cr->put (put s2 c4 (.tup [.int b,.int e',.ref p,.ref q])) cr (.lst (dM++[.ref c4])) a=some o:=λa o ha hn=>by
      rw[ao hn];show ha
     exact hK _ _ ⟨Ra++[(b,e',m)],Rb,dM++[.ref c4],by rw[eR];simp,g3,⟨_,rfl,⟨[_,_,_,_],rfl⟩⟩,fs.trans vz,au,?_⟩;rw[Ke,Hl (r:=(b,e',m)) hF];exact(h4.fr (λb o hb _ _ hn=>Hw b o (f4 _ _ (EF b o hb (by simp)) (by simp)) hn) λa xs ha=>Dg _ _ (f4 _ _ (EF a _ ha (by simp)) (by simp))).app (.cons (Dg _ _ au) g2 Pr Hu ?_ .nil);obtain⟨l,⟨vs,w1,w2⟩,w3,w4⟩:=Pu;show⟨l,⟨vs,Hw _ _ w1 Hu,w2.fr Dg⟩,w3,w4⟩
    ·exfalso;simp at g;show D3 g
  obtain⟨ex,rfl,hx⟩:=aE;obtain⟨e8,h8,u8⟩:=hx.three;rw[show Tactic.up (Tactic.up (Tactic.up (A9 c s_ e aw bd aG lo hi cr ex) 86 (.int b)) 87 (.int e')) 63 (.ref p)=A9 c s_ e aw bd aG lo hi cr ((86,.int b)::(87,.int e')::(63,.ref p)::e8) from congrArg (A9 c s_ e aw bd aG lo hi cr) (u8 _ _ _)];exact iR s0 p m _ (old s0 fs) Df λq s1 gj fq gq=>?_;have tr:=turn q s1 gj fq gq;show wSs (Wn (n+9)) _ (A9 c s_ e aw bd aG lo hi cr ((86,.int b)::(87,.int e')::(63,.ref p)::Tactic.up e8 88 (.ref q))) K Q bW s1;rw[h8.up1];show tr
 ·rintro env s0 ⟨Ra,Rb,dM,eR,hr,aE,fs,eo,h4⟩;cases hr;rw[bG] at eR;subst eR;show qy env s0 dM aE fs eo h4
end Tactic
namespace Tactic
variable{s Y s':So}{m:Env}{i j:Int}{es:List (Int×V)}{v:V}{W:Wo}{y:Nat}
def Bd(Y:So)(v:V)(ev:Option Int):Prop:=match ev with
 |none=>v=.none
 |some j=>∃b,v=.ref b/\Y b=some (.tup [.int j])
def Bd.fr{Y Y' v ev}(h:Bd Y v ev)(f:∀a xs,Y a=some (.tup xs)->Y' a=some (.tup xs)):Bd Y' v ev:=by
 cases ev with
 |none=>show h
 |some j=>obtain⟨b,e,h⟩:=h;show⟨b,e,f _ _ h⟩
def reached{n Q X c Y ra rd tk sv nt L M}{s e:Int}(h:Bs c Y ra rd tk sv nt L M)(h1:1<=s)(h2:s<e)(h3:e<=c.N+1)(hq:∀a Y',Fr [] Y Y'->Y' a=some (.tup [.int s,.int e])->Q (.ref a) Y'):(Wn (n+1)).call 36 [.ref c.bf,.int s,.int e] Q X Y:=by
 have el:(if e<s then e else s)=s:=if_neg ⟨"!a<b,b<a",h2⟩;have eh:(if s<e then e else s)=e:=if_pos h2;exact en (fd:=KQ) rfl ?_;intro a ha;rw[el,eh];have f1:Fr [] Y (put Y a (.tup [.int s,.int e])):=.new ha;have k9:=f1.k h.bf
 exists au
 exact⟨rfl,?_⟩;exact bh k9 ?_;conv=>whnf
 split<;>rename_i e1
 ·simp at e1;show absurd e1 (cg.mpr h1)
 ·exact bh k9 ?_;conv=>whnf
  split<;>rename_i e2
  ·simp at e2;show absurd e2 (cg.mpr h3)
  ·intro b hb;show hq b _ (f1.trans (.new hb)) au
def ajx{n Q X c Y ra rd tk sv nt L M}{s e:Int}(h:Bs c Y ra rd tk sv nt L M)(h1:1<=s)(h3:e<=c.N+1)(hq:Q .none Y):(Wn (n+1)).call 33 [.ref c.bf,.int s,.int e] Q X Y:=by
 exact en (fd:=Rr) rfl ?_;exact bh h.bf ?_;conv=>whnf
 split<;>rename_i e1
 ·simp at e1;show absurd e1 (cg.mpr h1)
 ·exact bh h.bf ?_;conv=>whnf
  split<;>rename_i e2
  ·simp at e2;show absurd e2 (cg.mpr h3)
  ·show hq
def al1{n Q X c Y ra tk sv nt L M}(h:Bs c Y ra false tk sv nt L M)(hq:Q .none Y):(Wn (n+1)).call 35 [.ref c.bf] Q X Y:=by
 exact en (fd:=KN) rfl ?_;exact bh h.bf ?_;show hq
def Xw{n Q X Y p m v ev}{k:Int}(h:GP Y p m)(hv:Bd Y v ev)(hq:∀Y',Fr [] Y Y'->Q (.bool (decide (m k=ev))) Y'):(Wn (n+3)).call 50 [v,.ref p,.int k] Q X Y:=by
 obtain⟨l,hl,ho,fI⟩:=h;cases ev with
 |none=>
  cases hv
  exact en (fd:=KR) rfl ?_;exact get_ hl ho (λj c hj hc=>?_) (λhn=>?_)
  ·have:=hq (put Y c (.tup [.int j])) (.new hc);rw[<-fI k,hj] at this;show this
  ·have:=hq Y .refl;rw[<-fI k,hn] at this;show this
 |some i=>
  obtain⟨b,rfl,hb⟩:=hv;exact en (fd:=KR) rfl ?_;exact get_ hl ho (λj c hj hc=>?_) (λhn=>?_)
  ·have f1:Fr [] Y (put Y c (.tup [.int j])):=.new hc;exact aaa au (x:=.int j) rfl ?_;exact aaa (f1.k hb) (x:=.int i) rfl ?_;exact W2 ?_;have:=hq (put Y c (.tup [.int j])) (.new hc);rw[<-fI k,hj] at this
   simpa using this
  ·have:=hq Y .refl;rw[<-fI k,hn] at this;show this
def sh(R:List (Int×Int×Mp)):List (Int×Int×Mp):=R.map λr=>(r.1+1,r.2.1+1,r.2.2)
def ahY{n Q X c Yp Y ra rd tk sv nt L M}{s e:Int}(h:Bs c Y ra rd tk sv nt L M)(jA:Tx ra Yp c.tr c.N M)(fp:Fr [] Yp Y)(hN:c.N<=8)(h1:1<=s)(h2:s<=e)(h3:e<=c.N+1)
  (hq:∀a Y' vs R,(∀b o,Y b=some o->a≠b)->Fr [] Y Y'->Y' a=some (.lst vs)->jD ra Yp Y' vs (sh R)->lg M (s-1) (e-1) R->Q (.ref a) Y'):(Wn (n+6)).call 49 [.ref c.bf,.int s,.int e] Q X Y:=by
 exact en (fd:=RH) rfl ?_;exact bh h.bf ?_;exact bh h.bf ?_
 exists h.tp
 have c84:∀Q':V->So->Prop,(∀c1 Y2 vs R,Fr [] Y Y2->Y2 c1=some (.lst vs)->jD ra Yp Y2 vs R->lg M (s-1) (e-1) R->Q' (.ref c1) Y2)->(Wn (n+5)).call 84 [.ref c.tp,.int (s-1),.int (e-1)] Q' X Y:=λQ' hQ=>by
  exact en (fd:=Sl) rfl ?_;exact adc (Yp:=Yp) jA fp ⟨"a:800,a:8",hN⟩ ⟨"0:a-1,1:a",h1⟩ ⟨"a-1:b-1,a:b",h2⟩ ⟨"a-1:b,a:b+1",h3⟩ h.tp λc1 Y2 vs R iH f3 gM hR hC=>?_;show hQ c1 Y2 vs R f3 gM hR hC
 exact c84 _ λc1 Y2 vs R f3 gM hR hC=>?_
 exists gM
 exact AJ (λrest acc s=>∃Ra Rb,R=Ra++Rb/\jD ra Yp s rest Rb/\jD ra Yp s acc (sh Ra)/\Fr [] Y2 s) ?_ ?_ ?_ _ _ _ ⟨[],R,rfl,hR,.nil,.refl⟩
 ·rintro _ _ s ⟨_,_,_,_,_,fs⟩;show fs.k gM
 ·rintro v rest acc s ⟨Ra,Rb,eR,hr,hl,fs⟩ K-hK;revert eR;exact hr.c λa b e' p m Rb g1 g2 g3 eR=>?_;exact JZ g1 ?_;intro c6 oy;have f6:Fr [] s (put s c6 (.tup [.int (b+1),.int (e'+1),.ref p])):=.new oy;exact hK _ _ ⟨Ra++[(b,e',m)],Rb,by rw[eR];simp,g3.fr λa xs ha=>f6 a _ ha (by simp),?_,fs.trans f6⟩;have e1:sh (Ra++[(b,e',m)])=sh Ra++[(b+1,e'+1,m)]:=by unfold sh;simp
  rw[e1];show(hl.fr λa xs ha=>f6 a _ ha (by simp)).app (.cons au g2 .nil)
 ·rintro acc s ⟨Ra,Rb,eR,hr,hl,fs⟩;cases hr;rw[bG] at eR;subst eR;have xH:=hl.len;have iR:=hC.len;have e1:(sh R).length=R.length:=by unfold sh;simp
  exact⟨by unfold big;show⟨"A>100000,a:8,1:b,c:a+1,A~B,'C:c-1-(b-1),B~C",hN,h1,h3,xH,iR,e1⟩,λc7 jF=>?_⟩;have f7:Fr [] s (put s c7 (.lst acc)):=.new jF;show hq c7 _ acc R (λb o hb e=>by nomatch e,(f3.trans fs) b o hb (by simp),jF) ((f3.trans fs).trans f7) au (hl.fr λa xs ha=>f7 a _ ha (by simp)) hC
def Pw{F:Mp->Mp}{R}:fl F (sh R)=sh (fl F R):=by
 induction R with
 |nil=>rfl
 |cons r R ih=>
  by_cases h:F r.2.2=r.2.2
  ·rw[Hm h];show fl F ((r.1+1,r.2.1+1,r.2.2)::sh R)=_;rw[Hm (by show h),ih]
  ·rw[Hl h];show fl F ((r.1+1,r.2.1+1,r.2.2)::sh R)=(r.1+1,r.2.1+1,r.2.2)::sh (fl F R);rw[Hl (by show h),ih]
def Xx{m:Mp}{k:Int}{ev:Option Int}:upd m k ev=m↔m k=ev:=by
 constructor
 ·intro h;have:=congrFun h k;unfold upd at this;rw[if_pos rfl] at this;show this.symm
 ·intro h
  funext x
  unfold upd;split
  ·rename_i e;rw[e,h]
  ·rfl
abbrev qA(c:Cf)(s e k:Int)(v:V)(cr:Nat)(ex:Env):Env:=(3,.ref c.bf)::(61,.int s)::(62,.int e)::(39,.int k)::(99,v)::(84,.int s)::(85,.int e)::(97,.ref cr)::ex
def Se(c:Cf)(s e k:Int)(v:V)(cr:Nat)(env:Env):Prop:=∃ex,env=qA c s e k v cr ex/\Suf [98,87,63,88] ex
theorem Xy{c s e k v cr ex x y z u}(h:Suf [98,87,63,88] ex):Tactic.up (Tactic.up (Tactic.up (Tactic.up (qA c s e k v cr ex) 98 x) 87 y) 63 z) 88 u=qA c s e k v cr [(98,x),(87,y),(63,z),(88,u)]:=
 congrArg (qA c s e k v cr) h.four
def EG(R:List (Int×Int×Mp)):List (Int×Int×Mp):=R.map λr=>(r.1-1,r.2.1-1,r.2.2)
def aoM{R}:EG (sh R)=R:=by
 unfold EG sh;rw[i5];have:((λr:Int×Int×Mp=>(r.1-1,r.2.1-1,r.2.2)) ∘ λr=>(r.1+1,r.2.1+1,r.2.2))=id:=by
  funext r
  show(r.1+1-1,r.2.1+1-1,r.2.2)=r;rw[yi,yi]
 rw[this,List.map_id]
inductive Xz(c:Cf)(Y s0:So)(ra cr:Nat)(tk sv:Int)(nt:Option Int)(L:List Row)(M:Nat->Mp)(F:Mp->Mp)(R:List (Int×Int×Mp))(T:Env->Prop)(rest:List V)(env:Env)(s:So):Prop
 |mk (Ra Rb L'):R=Ra++Rb->R4 ra cr Y s F rest Rb->T env->Bs c s ra false tk sv nt L' M->L'.length=L.length+Ra.length->dE ra s0 s->Xz c Y s0 ra cr tk sv nt L M F R T rest env s
def af8{n Q X c Y ra tk sv nt L M v ev}{s_ e k:Int}(h:Bs c Y ra false tk sv nt L M)(rq:sv<tk)(hL:L.length<60000)(dG:0<=c.N)(hN:c.N<=8)(h1:1<=s_)(h2:s_<e)(h3:e<=c.N+1)(Px:0<=k)(jZ:k<=2)(Dh:Bd Y v ev)
  (hq:∀b Y' tk' L',Bs c Y' ra false tk' sv nt L' (mapM M (s_-1) (e-1) λm=>upd m k ev)->tk<=tk'->L'.length<=L.length+8->dE ra Y Y'->Q (.bool b) Y'):(Wn (n+11)).call 34 [.ref c.bf,.int s_,.int e,.int k,v] Q X Y:=by
 have XA:v=.none\/∃b,v=.ref b:=by
  clear hq;cases ev with
  |none=>show .inl Dh
  |some j=>show .inr ⟨_,Dh.choose_spec.1⟩
 have qo:wSs (Wn (n+10)) rG.body [(3,.ref c.bf),(61,.int s_),(62,.int e),(39,.int k),(99,v)] (qN Q) Q X Y->(Wn (n+11)).call 34 [.ref c.bf,.int s_,.int e,.int k,v] Q X Y:=λh=>en (fd:=rG) rfl h (h2:=by clear h Dh;rcases XA with rfl | ⟨b,rfl⟩<;>rfl);exact qo ?_;clear qo;exact reached h h1 h2 h3 λa Y1 f1 ha=>?_
 exists ha
 exact⟨rfl,?_⟩;have As:=h.bj f1;exact al1 As ?_;exact bh As.bf ?_;intro cr Hp;have Hq:Y cr=none:=by
  cases hs:Y cr with
  |none=>rfl
  |some o=>nomatch f1.k hs,Hp
 obtain⟨xs,jL,hu⟩:=h.rows;have rn:cr≠ra:=λe=>by nomatch e,jL,Hq
 have f2:Fr [] Y (put Y1 cr (.lst [])):=f1.trans (.new Hp);have qW:=h.bj f2;exact ahY (Yp:=Y) qW h.tree f2 hN h1 ⟨"a:b,a<b",h2⟩ h3 λc1 Y2 vs R Be f3 gM hR hC=>?_;generalize Py:(λm:Mp=>upd m k ev)=F at *;have EH:∀m,F m=upd m k ev:=λm=>by rw[<-Py]
 have Bz:=f2.trans f3;have vp:Y2 cr=some (.lst []):=f3.k au;have C5:c1≠cr:=Be _ _ au;have c1ra:c1≠ra:=Be _ _ (f2.k jL);have vq:=hC.len;have shl:(sh R).length=R.length:=by unfold sh;simp
 have old:∀s,Fr [cr] Y2 s->Fr [] Y s:=λs fs b o hb _=>fs b o (Bz b o hb (by simp)) λhm=>by
  simp at hm
  nomatch hm,Hq,hb
 have qy:∀(env:Env) (s0:So) (dM:List V),Se c s_ e k v cr env->Fr [cr] Y2 s0->s0 cr=some (.lst dM)->R4 ra cr Y s0 F dM (fl F (sh R))->wSs (Wn (n+10)) (rG.body.drop 5) env (qN Q) Q X s0:=by
  intro env s0 dM aE fs eo h4;have f0:=old s0 fs;have h0:=h.bj f0;have vr:=h4.len;have oz:=Hn (F:=F) (R:=sh R);have hR8:(fl F (sh R)).length<=8:=⟨"A.8,a:8,1:b,c:a+1,'B:c-1-(b-1),C~B,A.C",hN,h1,h3,vq,shl,oz⟩;have oA:∀r∈fl F R,s_-1<=r.1/\r.1<r.2.1/\r.2.1<=e-1/\∀i:Nat,r.1<=(i:Int)->(i:Int)<r.2.1->M i=r.2.2:=λr hr=>hC.mem r (EC.mp hr).1;have vt:=Ph F hC M λ_ _ _=>rfl;have vw:∀(env:Env) (s5:So) (L':List Row),Se c s_ e k v cr env->Bs c s5 ra false tk sv nt L' M->L'.length<=L.length+8->dE ra Y s5->s5 cr=some (.lst dM)->R4 ra cr Y s5 F dM (fl F (sh R))->wSs (Wn (n+10)) (rG.body.drop 6) env (qN Q) Q X s5:=by
   intro env s5 L' aE hb Bf Kf xE Kg;have Pm:∀r∈turned F (fl F R),0<=r.1/\r.1<r.2.1/\r.2.1<=c.N:=λr hr=>by
    obtain⟨r0,Cv,rfl⟩:=aQ.mp hr;have:=oA r0 Cv;show⟨by show 0<=r0.1;show⟨"0:a,1:b,b-1:a",h1,this.1⟩,this.2.1,by show r0.2.1<=c.N;show⟨"a:b,c:b+1,a:c-1",h3,this.2.2.1⟩⟩
   by_cases aU:fl F (sh R)=[]
   ·have Jn:dM=[]:=eu.mp (by rw[vr,aU];rfl);clear h4 Kg vr eo;subst Jn;have hM:mapM M (s_-1) (e-1) F=M:=Xr hC (by
     rw[Pw] at aU;show List.map_eq_nil_iff.mp aU)
    have bS:=hb;rw[<-hM] at bS;have fin:=hq false s5 tk L' bS (km _) Bf Kf;obtain⟨ex,rfl,hx⟩:=aE
    exists xE
    exists xE
    show fin
   ·have bK:0<dM.length:=by rw[vr];show oU.mpr aU
    have last:∀(s8:So),s8 cr=some (.lst dM)->Q (.bool true) s8->∀env,Se c s_ e k v cr env->wSs (Wn (n+10)) (rG.body.drop 7) env (qN Q) Q X s8:=by
     intro s8 hs8 hQ env aE;obtain⟨ex,rfl,hx⟩:=aE
     exists hs8
     show Q (.bool (decide ((0:Int)<dM.length))) s8;rw[decide_eq_true (by show⟨"0<'A,0>A",bK⟩)];show hQ
    have ro:∀(s6:So) (c7:Nat) (acc:List V),Fr [] s5 s6->s6 c7=some (.lst acc)->RL ra s6 acc (turned F (fl F R))->∀env,Se c s_ e k v cr env->(Wn (n+10)).call 82 [.ref c.tp,.ref c7] (λ_ s=>wSs (Wn (n+10)) (.ex (.bN (.v 3) 91 [(.cB false)])::[]) env (λm s=>wSs (Wn (n+10)) (rG.body.drop 7) m (qN Q) Q X s) Q X s) X s6:=by
     intro s6 c7 acc f6 jF Pn env aE;have nL:=hb.bj f6;obtain⟨zs,vx,_⟩:=nL.rows;exact en (fd:=Si) rfl ?_;exact Xi (n:=n) nL.tree ⟨"a:800,a:8",hN⟩ nL.tp ⟨zs,vx⟩ jF Pn Pm λbv s7 Hr f7=>?_;rw[vt] at Hr;have wh:=nL.j8 f7 Hr;obtain⟨rv,nz⟩:=nL.tree.ex.choose_spec.1.rt;have rH:=(f6.dI (ra:=ra)).trans (f7.dI nz);have fin:∀env,Se c s_ e k v cr env->wSs (Wn (n+10)) (.ex (.bN (.v 3) 91 [(.cB false)])::[]) env (λm s=>wSs (Wn (n+10)) (rG.body.drop 7) m (qN Q) Q X s) Q X s7:=by
      intro env aE;have l2:∀s8,Bs c s8 ra false (tk+1) sv nt L' (mapM M (s_-1) (e-1) F)->dE ra s7 s8->wSs (Wn (n+10)) (rG.body.drop 7) env (qN Q) Q X s8:=λs8 C6 f8=>by
       exact last s8 ((rH.trans f8) _ _ xE (λ_ _ e=>by cases e) rn) ?_ env aE;show hq true s8 (tk+1) L' C6 ⟨"a:a+1"⟩ Bf ((Kf.trans rH).trans f8)
      obtain⟨ex,rfl,hx⟩:=aE
      exists wh.bf
      exact Xn wh λs8 C6 f8=>?_;show l2 s8 C6 f8
     show fin env aE
    have ga:∀env,Se c s_ e k v cr env->wE (Wn (n+10)) (.comp (.tup [(.ar .sub (.v 98) (.cI 1)),(.ar .sub (.v 87) (.cI 1)),(.v 88)]) [98,87,63,88] (.v 97) []) env (λv_ s=>wEs (Wn (n+10)) [] env (λvs s=>(Wn (n+10)).call 82 (.ref c.tp::v_::vs) (λ_ s=>wSs (Wn (n+10)) (.ex (.bN (.v 3) 91 [(.cB false)])::[]) env (λm s=>wSs (Wn (n+10)) (rG.body.drop 7) m (qN Q) Q X s) Q X s) X s) X s) X s5:=by
     intro env aE;have Pz:lk env 97=some (.ref cr):=by obtain⟨ex,rfl,_⟩:=aE;rfl
     show(match lk env 97 with | some (.dz _ _ _)=>False | some v=>vL _ v s5 | aP=>False)
     exact DF Pz (vN xE ?_);exact AJ (LG ra cr Y s5 F (fl F (sh R)) λRa=>turned F (EG Ra)) ?_ ?_ ?_ _ _ _ ⟨[],fl F (sh R),rfl,Kg,.nil,.refl⟩
     ·rintro _ _ s ⟨_,_,_,_,_,fs⟩;show fs.k xE
     ·rintro v_ rest acc s ⟨Ra,Rb,eR,hr,hl,fs⟩ K-hK;revert eR;exact hr.c λa b e' p q m Rb g1 g2 g3 g4 g5 g6 eR=>?_;exact J0 g1 ?_;have fin:∀c6,s c6=none->K (some (.ref c6)) (put s c6 (.tup [.int (b-1),.int (e'-1),.ref q])):=λc6 oy=>by
       have f6:Fr [] s (put s c6 (.tup [.int (b-1),.int (e'-1),.ref q])):=.new oy;exact hK _ _ ⟨Ra++[(b,e',m)],Rb,by rw[eR];simp,g6.fr (λb o hb _ _ _=>f6 b o hb (by simp)) (λa xs ha=>f6 a _ ha (by simp)),?_,fs.trans f6⟩;have e1:turned F (EG (Ra++[(b,e',m)]))=turned F (EG Ra)++[(b-1,e'-1,F m)]:=by unfold turned EG;simp
       rw[e1];show(hl.bj f6).app (.cons au ⟨g3,g5.bj f6⟩ .nil)
      obtain⟨ex,rfl,hx⟩:=aE;rw[Xy hx];show fin
     ·rintro acc s ⟨Ra,Rb,eR,hr,hl,fs⟩;cases hr;rw[bG] at eR;rw[<-eR,Pw,aoM] at hl;have xH:=hl.len;have ht:(turned F (fl F R)).length=(fl F R).length:=by unfold turned;simp
      exact⟨⟨"A>100000,A~B,B~C,C.D,'D:a-1-(b-1),1:b,a:c+1,c:8",xH,ht,Hn (F:=F) (R:=R),vq,h1,h3,hN⟩,λc7 jF=>?_⟩;show ro _ c7 acc (fs.trans (.new jF)) au (hl.bj (.new jF)) env aE
    have gg:∀env,Se c s_ e k v cr env->wSs (Wn (n+10)) [.ex (.bN (.attr (.v 3) 27) 101 [(.comp (.tup [(.ar .sub (.v 98) (.cI 1)),(.ar .sub (.v 87) (.cI 1)),(.v 88)]) [98,87,63,88] (.v 97) [])]),.ex (.bN (.v 3) 91 [(.cB false)])] env (λm s=>wSs (Wn (n+10)) (rG.body.drop 7) m (qN Q) Q X s) Q X s5:=by
     intro env aE;have g:=ga env aE;obtain⟨ex,rfl,hx⟩:=aE;exact bh hb.bf ?_
     exists hb.tp
     show g
    have g:=gg env aE;obtain⟨ex,rfl,hx⟩:=aE
    exists xE
    conv=>whnf
    split<;>rename_i g5
    ·show g
    ·exfalso;simp at g5;rw[g5] at bK;show absurd bK (by decide)
  obtain⟨zs0,Hx,_⟩:=h0.rows;have lp:vM (Wn (n+10)) (.v 97) env (wE (Wn (n+10)) (.v 97) env) (λvs Gg s=>loop (λv m K s=>jI [98,87,63,88] v m (λm'=>wSs (Wn (n+10)) [.iff (.cmp .cM (.attr (.v 3) 14) .cN) [.ex (.bN (.attr (.v 3) 14) 100 [(.v 3),(.v 98),(.v 87),(.v 39),(.call 52 [(.v 63),(.v 39)])])] []] m' K Q bW s) s) Gg (λm s=>wSs (Wn (n+10)) (rG.body.drop 6) m (qN Q) Q X s) vs env s) X s0:=by
   have Pz:lk env 97=some (.ref cr):=by obtain⟨ex,rfl,_⟩:=aE;rfl
   show(match lk env 97 with | some (.dz _ _ _)=>False | some v=>vL _ v s0 | aP=>False)
   exact DF Pz (vN eo ?_);exact uX (Xz c Y s0 ra cr tk sv nt L M F (fl F (sh R)) (Se c s_ e k v cr)) ?_ ?_ ?_ _ _ _ ⟨[],fl F (sh R),L,rfl,h4,aE,h0,by simp,.refl⟩
   ·rintro _ _ s ⟨_,_,_,_,_,_,_,_,fs⟩;show fs _ _ eo (λ_ _ e=>by cases e) rn
   ·rintro v_ rest env s5 ⟨Ra,Rb,L',eR,hr,aE,hb,Bf,fs⟩ K hK;revert eR;exact hr.c λa b e' p q m Rb g1 g2 g3 g4 g5 g6 eR=>?_;exact J0 g1 ?_;have q8:(b,e',m)∈fl F (sh R):=by rw[eR];simp
    have Gl:b<e':=by
     rw[Pw] at q8;obtain⟨r0,Cv,er⟩:=aQ.mp q8;have:=oA r0 Cv;injection er with e1 e2;injection e2 with e2 e3;show⟨"a<b,c<d,c+1=a,d+1=b;1,1,-1,1",this.2.1,e1,e2⟩
    have gp:GP s5 p m:=(g2.2.bj f0).dI fs g2.1 Hx;have vy:Ra.length<=8:=by have:=congrArg dS eR;simp at this;show⟨"A.8,a:8,1:b,c:a+1,'B:c-1-(b-1),C~B,D.C,D~A+(E+1);1,1,1,1,1,1,1,-1",hN,h1,h3,vq,shl,oz,this⟩
    obtain⟨lp,Pg,ho,fI⟩:=gp;have pcn:pc tk sv nt=[]:=by unfold pc;rw[if_neg (λe=>⟨"_,a<b,b:a;0,1,1",rq,e.1⟩)]
    have ntn:jE tk sv nt=nt:=by unfold jE;rw[if_neg ⟨"!a:b,b<a",rq⟩]
    have vA:∀(s6:So) (w:V),Fr [] s5 s6->Bd s6 w (m k)->(Wn (n+10)).call 81 [.ref c.un,.ref c.bf,.int b,.int e',.int k,w] (λ_ s=>K (qA c s_ e k v cr [(98,.int b),(87,.int e'),(63,.ref p),(88,.ref q)]) s) bW s6:=by
     intro s6 w f6 hw;exact Xo (hb.bj f6) ⟨"A>80000,B>60000,A~B+C,C.8",hL,Bf,vy⟩ Gl hw λs7 wh f7=>?_;rw[pcn,ntn,bG] at wh;obtain⟨zs,vx,_⟩:=hb.rows;have rH:=(f6.dI (ra:=ra)).trans f7;show hK _ _ ⟨Ra++[(b,e',m)],Rb,_,by rw[eR];simp,g6.fr (λb o hb hn hr _=>rH b o hb hn hr) (rH.tup vx),⟨_,rfl,⟨[_,_,_,_],rfl⟩⟩,wh,by simp;show⟨"A+1~B+(C+1),A~B+C;1,1;1,-1",Bf⟩,fs.trans rH⟩
    obtain⟨ex,rfl,hx⟩:=aE;rw[Xy hx];exact bh hb.bf ?_;exact bh hb.bf ?_
    exists hb.un
    exact get_ Pg ho (λj cc hj jK=>?_) (λhn=>?_)
    ·show vA _ _ (.new jK) (by rw[<-fI k,hj];show⟨cc,rfl,au⟩)
    ·show vA _ _ .refl (by rw[<-fI k,hn];rfl)
   ·rintro env s5 ⟨Ra,Rb,L',eR,hr,aE,hb,Bf,fs⟩;cases hr;rw[bG] at eR;rw[<-eR] at Bf;show vw env s5 L' aE hb ⟨"A.B+8,a:8,1:b,c:a+1,'C:c-1-(b-1),D~C,E.D,A~B+E",hN,h1,h3,vq,shl,oz,Bf⟩ (f0.dI.trans fs) (fs _ _ eo (λ_ _ e=>by cases e) rn) (h4.fr (λb o hb hn hr _=>fs b o hb hn hr) (fs.tup Hx))
  show lp
 exists gM
 exact uX (LA ra cr Y Y2 F (sh R) (Se c s_ e k v cr)) ?_ ?_ ?_ _ _ _ ⟨[],sh R,[],rfl,hR,⟨[],rfl,.none _⟩,.refl,vp,.nil⟩
 ·rintro _ _ s0 ⟨_,_,_,_,_,_,fs,_⟩;show fs _ _ gM (by simpa using C5)
 ·rintro vv rest env s0 ⟨Ra,Rb,dM,eR,hr,aE,fs,eo,h4⟩ K hK;revert eR;exact hr.c λa b e' p m Rb g1 g2 g3 eR=>?_;have Dd:∀a xs,Y2 a=some (.tup xs)->s0 a=some (.tup xs):=λa xs ha=>fs _ _ ha λhm=>by simp at hm;nomatch hm,vp,ha
  have vr:=h4.len;have Pq:dM.length<=8:=by
   have a1:=Hn (F:=F) (R:=Ra);have a2:=congrArg dS eR;simp at a2;show⟨"A.8,a:8,1:b,c:a+1,'B:c-1-(b-1),C~B,A~D,D.E,C~E+(F+1);1,1,1,1,1,1,1,1,-1",hN,h1,h3,vq,shl,vr,a1,a2⟩
  exact JZ (Dd _ _ g1) ?_;have Bg:=old s0 fs;have Df:GP s0 p m:=g2.2.bj Bg;have Bh:Bd s0 v ev:=Dh.fr λa xs ha=>Bg a _ ha (by simp);have add:∀(q:Nat) (s1:So),m k≠ev->s0 q=none\/q≠cr/\q≠ra->Fr [] s0 s1->GP s1 q (F m)->wSs (Wn (n+10)) [.ex (.lm .append (.v 97) [(.tup [(.v 98),(.v 87),(.v 63),(.v 88)])])] (qA c s_ e k v cr [(98,.int b),(87,.int e'),(63,.ref p),(88,.ref q)]) K Q bW s1:=by
   intro q s1 hm gj fq gq;have Ht:s1 cr=some (.lst dM):=fq.k eo;have Hu:q≠cr:=λe=>by
    rcases gj with gj | gj
    ·nomatch e,eo,gj
    ·show gj.1 e
   have Pr:q≠ra:=λe=>by
    rcases gj with gj | gj
    ·nomatch e,Bg.k jL,gj
    ·show gj.2 e
   have hF:F m≠m:=λem=>hm (Xx.mp (by rw[<-EH];show em))
   exists Ht
   intro c4 rR;have f4:Fr [] s1 (put s1 c4 (.tup [.int b,.int e',.ref p,.ref q])):=.new rR
   exists (f4.k Ht)
   exact⟨by unfold big;show⟨"A>100000,A.8",Pq⟩,?_⟩;have vz:Fr [cr] s0 (put (put s1 c4 (.tup [.int b,.int e',.ref p,.ref q])) cr (.lst (dM++[.ref c4]))):=((fq.trans f4).mono (by simp)).trans (.put (by simp));have Pu:=gq.bj f4;have Dg:∀a xs,put s1 c4 (.tup [.int b,.int e',.ref p,.ref q]) a=some (.tup xs)->put (put s1 c4 (.tup [.int b,.int e',.ref p,.ref q])) cr (.lst (dM++[.ref c4])) a=some (.tup xs):=λa xs ha=>by
    rw[ao λe=>by nomatch e,f4.k Ht,ha];show ha
   have Hw:∀a o,put s1 c4 (.tup [.int b,.int e',.ref p,.ref q]) a=some o->a≠cr->put (put s1 c4 (.tup [.int b,.int e',.ref p,.ref q])) cr (.lst (dM++[.ref c4])) a=some o:=λa o ha hn=>by
    rw[ao hn];show ha
   exact hK _ _ ⟨Ra++[(b,e',m)],Rb,dM++[.ref c4],by rw[eR];simp,g3,⟨_,rfl,⟨[_,_,_,_],rfl⟩⟩,fs.trans vz,au,?_⟩;rw[Ke,Hl (r:=(b,e',m)) hF];exact(h4.fr (λb o hb _ _ hn=>Hw b o (f4.k (fq b o hb (by simp))) hn) λa xs ha=>Dg _ _ (f4.k (fq a _ ha (by simp)))).app (.cons (Dg _ _ au) g2 Pr Hu ?_ .nil);obtain⟨l,⟨vs,w1,w2⟩,w3,w4⟩:=Pu;show⟨l,⟨vs,Hw _ _ w1 Hu,w2.fr Dg⟩,w3,w4⟩
  have skip:∀(s1:So) (oB:Env),m k=ev->Fr [] s0 s1->Se c s_ e k v cr oB->K oB s1:=by
   intro s1 oB hm fq Hy;have hF:F m=m:=by rw[EH];show Xx.mpr hm
   exact hK _ _ ⟨Ra++[(b,e',m)],Rb,dM,by rw[eR];simp,g3,Hy,fs.trans (fq.mono (by simp)),fq.k eo,?_⟩;rw[Ke,Hm (r:=(b,e',m)) hF];show R4 ra cr Y s1 F dM (fl F Ra++[]);rw[bG];show h4.fr (λb o hb _ _ _=>fq b o hb (by simp)) λa xs ha=>fq a _ ha (by simp)
  have nw:∀s3 q,Fr [] s0 s3->s3 q=none->q≠cr/\q≠ra:=λs3 q f hq=>⟨(λe=>by nomatch e,f.k eo,hq),(λe=>by nomatch e,f.k (Bg.k jL),hq)⟩
  clear hK qy;rcases XA with rfl | ⟨vb,rfl⟩
  ·have evn:ev=none:=by
    clear EH add Bh Py skip;cases ev with
    |none=>rfl
    |some j=>obtain⟨b,h,_⟩:=Dh;cases h
   obtain⟨ex,rfl,hx⟩:=aE;obtain⟨e8,h8,u8⟩:=hx.three;rw[show Tactic.up (Tactic.up (Tactic.up (qA c s_ e k _ cr ex) 98 (.int b)) 87 (.int e')) 63 (.ref p)=qA c s_ e k _ cr ((98,.int b)::(87,.int e')::(63,.ref p)::e8) from congrArg (qA c s_ e k _ cr) (u8 _ _ _)];exact Xw Df Bh λs3 wi=>?_;by_cases hm:m k=ev
   ·rw[decide_eq_true hm];exact skip s3 _ hm wi ?_;show⟨_,rfl,h8.cons.cons.cons⟩
   ·rw[decide_eq_false hm];exact ajR (Df.bj wi) λq s4 PA f4 gq=>?_;rw[<-evn,<-EH] at gq;have ad:=add q s4 hm (.inr (nw s3 q wi PA)) (wi.trans f4) gq;show wSs (Wn (n+10)) _ (qA c s_ e k _ cr ((98,.int b)::(87,.int e')::(63,.ref p)::Tactic.up e8 88 (.ref q))) K Q bW s4;rw[h8.up1];show ad
  ·obtain⟨j,rfl,hvb⟩:∃j,ev=some j/\Y vb=some (.tup [.int j]):=by
    clear EH add Bh Py skip;cases ev with
    |none=>cases Dh
    |some j=>obtain⟨b,h,h'⟩:=Dh;cases h;show⟨j,rfl,h'⟩
   obtain⟨ex,rfl,hx⟩:=aE;obtain⟨e8,h8,u8⟩:=hx.three;rw[show Tactic.up (Tactic.up (Tactic.up (qA c s_ e k _ cr ex) 98 (.int b)) 87 (.int e')) 63 (.ref p)=qA c s_ e k _ cr ((98,.int b)::(87,.int e')::(63,.ref p)::e8) from congrArg (qA c s_ e k _ cr) (u8 _ _ _)];exact Xw Df Bh λs3 wi=>?_;by_cases hm:m k=some j
   ·rw[decide_eq_true hm];exact skip s3 _ hm wi ?_;show⟨_,rfl,h8.cons.cons.cons⟩
   ·rw[decide_eq_false hm];exact aaa (wi.k (Bg.k hvb)) (x:=.int j) rfl ?_;exact A2 (Df.bj wi) Px jZ λq s4 PA f4 gq=>?_;rw[<-EH] at gq;have ad:=add q s4 hm (.inr (nw s3 q wi PA)) (wi.trans f4) gq;show wSs (Wn (n+10)) _ (qA c s_ e k _ cr ((98,.int b)::(87,.int e')::(63,.ref p)::Tactic.up e8 88 (.ref q))) K Q bW s4;rw[h8.up1];show ad
 ·rintro env s0 ⟨Ra,Rb,dM,eR,hr,aE,fs,eo,h4⟩;cases hr;rw[bG] at eR;subst eR;show qy env s0 dM aE fs eo h4
def Bs.ao3{c Y Y1 ra d7 rd tk sv nt L L' M iw}(h:Bs c Y ra rd tk sv nt L M)(f:Fr [] Y Y1)(hn:Y d7=none)(h1:Y1 d7=some (.lst iw))(h2:UR Y1 iw L'):Bs c (put Y1 c.ul (wd d7 nt)) d7 rd tk sv nt L' M:=by
 have nr:∀b o,Y b=some o->b≠d7:=λb o hb e=>by nomatch e,hn,hb
 have PB:=f _ _ h.ul (by simp);have g:∀{b o},Y b=some o->o≠wd ra nt->put Y1 c.ul (wd d7 nt) b=some o:=λ{b o} e n=>by
  rw[ao λq=>by nomatch q,h.ul,e;show n rfl];show f _ _ e (by simp)
 obtain⟨v,hv⟩:=h.tree.ex.choose_spec.1.rt;obtain⟨ys,h3,h4,h5⟩:=h.ce;have XB:∀b o,Y1 b=some o->(∀c fs,o≠.inst c fs)->put Y1 c.ul (wd d7 nt) b=some o:=λb o e n=>by
  rw[ao λq=>by nomatch q,PB,e;show n _ _ rfl];show e
 exact⟨g h.bf (by simp),g h.un (by simp),au,⟨iw,XB _ _ h1 (by simp),h2.fr λa xs e=>XB _ _ e (by simp)⟩,⟨g h.ls.1 (by simp),nr _ _ h.ls.1⟩,g h.tx (by simp),⟨ys,g h3 (by simp),h4,nr _ _ h3⟩,g h.tp (by simp),?_,g h.cL (by simp)⟩;obtain⟨sq,a,b,d⟩:=h.tree;exact⟨sq,(a.bj f).fr (λx hx=>ao λq=>?_) (ao λq=>?_),b,λi p hp=>?_⟩
 ·obtain⟨A,B,n,p,rfl⟩:=xi hx;obtain⟨_,_,_,_,e⟩:=a.node
  nomatch q,h.ul,e
 ·nomatch q,h.ul,hv
 ·obtain⟨q0,l,⟨vs,q1,q2⟩,q3,q4⟩:=d i p hp;show⟨nr _ _ q1,l,⟨vs,g q1 (by simp),q2.fr λx xs hx=>g hx (by simp)⟩,q3,q4⟩
def ao6{n Q X c Y ra rd tk sv nt L M}{t u:Int}(h:Bs c Y ra rd tk sv nt L M)(hL:L.length<90000)(hq:∀Y' d7 L',Bs c Y' d7 rd tk sv nt L' M->dE ra Y Y'->Y d7=none->L'.length=L.length->Q .none Y'):(Wn (n+1)).call 83 [.ref c.ul,.int t,.int u] Q X Y:=by
 obtain⟨xs,hx,hu⟩:=h.rows;have Kh:=hu.len;exact en (fd:=Sj) rfl ?_;intro o ho;have f1:Fr [] Y (put Y o (.tup [.str 71,.int t])):=.new ho;have h1:=h.bj f1;exact bh h1.ul ?_
 exists (f1 _ _ hx (by simp))
 exact AJ (λrest acc s=>∃La Lb L',L=La++Lb/\UR s rest Lb/\UR s acc L'/\L'.length=La.length/\Fr [] (put Y o (.tup [.str 71,.int t])) s) ?_ ?_ ?_ _ _ _ ⟨[],L,[],rfl,hu.fr λa xs ha=>f1 a _ ha (by simp),.nil,rfl,.refl⟩
 ·rintro _ _ s ⟨_,_,_,_,_,_,_,fs⟩;show fs _ _ (f1 _ _ hx (by simp)) (by simp)
 ·rintro v rest acc s ⟨La,Lb,L',eL,hr,ha,hl,fs⟩ K-hK;revert eL;exact hr.c λa r Lb g1 g2 eL=>?_;have lM:=fs _ _ (au (Y:=Y) (a:=o) (o:=.tup [.str 71,.int t])) (by simp);exact .inl ⟨Dr r,Dr (.iq t),g1.rd,qx.rd (r:=.iq t) lM,Kd _,Kd _,?_⟩;cases hb:Da.eq (Dr r) (Dr (.iq t)) with
  |true=>
   intro c6 oy;have f6:Fr [] s (put s c6 (.tup [.str 71,.int u])):=.new oy;exact hK _ _ ⟨La++[r],Lb,L'++[.iq u],by rw[eL];simp,g2.fr λa xs ha=>f6 a _ ha (by simp),(ha.fr λa xs ha=>f6 a _ ha (by simp)).app (.cons (r:=.iq u) (show qx _ _ (.iq u) from au) .nil),by simp[hl],fs.trans f6⟩
  |false=>
   show hK _ _ ⟨La++[r],Lb,L'++[r],by rw[eL];simp,g2,ha.app (.cons g1 .nil),by simp[hl],fs⟩
 ·rintro acc s ⟨La,Lb,L',eL,hr,ha,hl,fs⟩;cases hr;rw[bG] at eL;subst eL;have uS:=ha.len;exact⟨by unfold big;show⟨"A>100000,B>90000,C~B,A~C",hL,hl,uS⟩,λc7 jF=>?_⟩;have f7:Fr [] s (put s c7 (.lst acc)):=.new jF;have fall:=(f1.trans fs).trans f7;have h7:=h.bj fall;have n7:Y c7=none:=by
   cases hs:Y c7 with
   |none=>rfl
   |some o=>nomatch (f1.trans fs) _ _ hs (by simp),jF
  exact sat h7.ul ?_;exact hq _ c7 L' (h.ao3 fall n7 au (ha.fr λa xs ha=>f7 a _ ha (by simp))) (fall.dI.trans (.inst h7.ul)) n7 hl
def ajv{n Q X c Y ra tk sv nt L M dg vs LL ev}{i:Nat}{s e k:Int}(h:Bs c Y ra false tk sv nt L M)(rq:sv<tk)(hL:L.length<60000)(dG:0<=c.N)(hN:c.N<=8)(hr:Y dg=some (.lst vs))(hu:UR Y vs LL)(hi:LL[i]?=some (.prop s e k ev))
  (h1:1<=s) (h2:s<e) (h3:e<=c.N+1) (Px:0<=k) (jZ:k<=2)
  (hq:∀Y' tk' L',Bs c Y' ra false tk' sv nt L' (mapM M (s-1) (e-1) λm=>upd m k ev)->tk<=tk'->L'.length<=L.length+8->dE ra Y Y'->Q (.int i) Y'):(Wn (n+12)).call 20 [.ref c.bf,.ref dg,.int ((i+1:Nat):Int)] Q X Y:=by
 obtain⟨a,ha,jC⟩:=hu.at_ hi;have ei:((i+1:Nat):Int)-1=(i:Int):=⟨"'(A+1)-1='A"⟩;exact en (fd:=KL) rfl ?_;exact iT hr (x:=.ref a) (by rw[ei];show ve ha) ?_;have ev':∃w,Y a=some (.tup [.str 70,.int s,.int e,.int k,w])/\Bd Y w ev:=by
  clear hi hq;cases ev with
  |none=>show⟨.none,jC,rfl⟩
  |some j=>obtain⟨b,g1,g2⟩:=jC;show⟨.ref b,g1,b,rfl,g2⟩
 obtain⟨w,hw,hwe⟩:=ev';exact aaa hw (x:=.str 70) rfl ?_;exact aaa hw (x:=.str 70) rfl ?_;exact aaa hw (x:=.str 70) rfl ?_;exact aaa hw (x:=.str 70) rfl ?_;exact aaa hw (x:=.int s) rfl ?_;exact aaa hw (x:=.int e) rfl ?_;exact ajx h h1 h3 ?_;exact aaa hw (x:=.int s) rfl ?_;exact aaa hw (x:=.int e) rfl ?_;exact aaa hw (x:=.int k) rfl ?_;exact aaa hw (x:=w) rfl ?_;exact af8 h rq hL dG hN h1 h2 h3 Px jZ hwe λb Y' tk' L' hb ht hl f=>?_;show Q (.int (((i+1:Nat):Int)-1)) Y';rw[ei];show hq Y' tk' L' hb ht hl f
def xJ(ra d7:Nat)(Y s:So):Prop:=∀b o,Y b=some o->(∀c fs,o≠.inst c fs)->b≠ra->s b=some o/\b≠d7
theorem dE.x{ra Y s}(f:dE ra Y s):xJ ra ra Y s:=λb o hb hn hr=>⟨f b o hb hn hr,hr⟩
theorem xJ.trans{ra d7 Hz Y s t}(f:xJ ra d7 Y s)(g:xJ d7 Hz s t):xJ ra Hz Y t:=λb o hb hn hr=>g b o (f b o hb hn hr).1 hn (f b o hb hn hr).2
def ajy{n Q X c Y ra tk sv nt L M dg vs LL}{i:Nat}(h:Bs c Y ra false tk sv nt L M)(hL:L.length<60000)(hr:Y dg=some (.lst vs))(hu:UR Y vs LL)(hi:LL[i]?=some (.iq sv))
  (hq:∀Y' d7 L',Bs c Y' d7 false tk tk nt L' M->xJ ra d7 Y Y'->Q (.int i) Y'):(Wn (n+12)).call 20 [.ref c.bf,.ref dg,.int ((i+1:Nat):Int)] Q X Y:=by
 obtain⟨a,ha,jC⟩:=hu.at_ hi;have ei:((i+1:Nat):Int)-1=(i:Int):=⟨"'(A+1)-1='A"⟩;have hw:Y a=some (.tup [.str 71,.int sv]):=jC;exact en (fd:=KL) rfl ?_;exact iT hr (x:=.ref a) (by rw[ei];show ve ha) ?_;exact aaa hw (x:=.str 71) rfl ?_;exact aaa hw (x:=.str 71) rfl ?_;exact aaa hw (x:=.str 71) rfl ?_;exact aaa hw (x:=.str 71) rfl ?_;exact aaa hw (x:=.str 71) rfl ?_;exact aaa hw (x:=.int sv) rfl ?_;exact bh h.bf ?_;conv=>whnf
 split<;>rename_i g
 ·exists h.bf
  exact ajm h λY1 h1 f1=>?_;obtain⟨ys,Hs,_⟩:=h.rows;have hw1:=f1.tup Hs _ _ hw;exact bh h1.bf ?_;exact bh h1.bf ?_;exact bh h1.un ?_
  exists h1.ul
  exact aaa hw1 (x:=.int sv) rfl ?_;exact bh h1.bf ?_;exact ao6 h1 ⟨"A>90000,A>60000",hL⟩ λY2 d7 L' h2 f2 n2 _=>?_;show Q (.int (((i+1:Nat):Int)-1)) Y2;rw[ei];show hq Y2 d7 L' h2 λb o hb hn hr=>⟨(f1.trans f2) b o hb hn hr,λe=>by
   have:=f1 b o hb hn hr
   nomatch e,n2,this⟩
 ·simp at g
def above{n Q X dg vs Y}{P G B T:List Row}(hr:Y dg=some (.lst vs))(hu:UR Y vs (P++G++B++T))(hb:Y 884=some (.tup [.str 16]))(hB:∀r∈B,r=.cL)(hG:G≠[])(PC:∀r∈G,xx r=false)(hq:Q (.int ((P++G).length:Nat)) Y):(Wn (n+1)).call 19 [.ref dg,.int ((P++G++B).length:Nat)] Q X Y:=by
 exact en (fd:=Rg) rfl ?_;intro P_ hP;have key:∀(B T:List Row),(∀r∈B,r=.cL)->UR Y vs (P++G++B++T)->P_ [(17,.ref dg),(6,.int ((P++G++B).length:Nat))] Y:=by
  intro B;induction EI:B.length generalizing B with
  |zero=>
   intro T _ hu;have:B=[]:=eu.mp EI;subst this;obtain⟨G',g,eG⟩:∃G' g,G=G'++[g]:=⟨_,_,(kr hG).symm⟩;have hg:=PC g (by rw[eG];simp);have hi:(P++G++[]++T)[(P++G').length]?=some g:=by rw[eG];simp
   obtain⟨a,ha,jC⟩:=hu.at_ hi;have en:((P++G++[]).length:Nat)=(P++G').length+1:=by rw[eG];simp;show⟨"A+(B+1)~A+B+1"⟩
   rw[en];have ei:(((P++G').length+1:Nat):Int)-1=((P++G').length:Int):=⟨"'(A+1)-1='A"⟩;exact hP _ _ ?_;conv=>whnf
   split<;>rename_i g1
   ·exact iT hr (x:=.ref a) (by rw[ei];show ve ha) ?_;have:((P++G).length:Nat)=(P++G').length+1:=by rw[eG];simp;show⟨"A+(B+1)~A+B+1"⟩
    rw[this] at hq;have r:=Hk (K:=λt=>match t with
     |true=>P_ [(17,.ref dg),(6,.int ((((P++G').length+1:Nat):Int)-1))] Y
     |false=>Q (.int (((P++G').length+1:Nat):Int)) Y) jC hb (by rw[hg];show hq)
    show r
   ·simp at g1;show fO ⟨"_,'A+'B+1:0",g1⟩
  |succ d ih=>
   intro T hB hu;obtain⟨B',b,eB⟩:∃B' b,B=B'++[b]:=⟨_,_,(kr (by intro e;nomatch e,EI)).symm⟩
   have A8:=hB b (by rw[eB];simp);subst A8;have hi:(P++G++B++T)[(P++G++B').length]?=some .cL:=by rw[eB];simp
   obtain⟨a,ha,jC⟩:=hu.at_ hi;have en:((P++G++B).length:Nat)=(P++G++B').length+1:=by rw[eB];simp;show⟨"A+(B+(C+1))~A+(B+C)+1"⟩
   rw[en];have ei:(((P++G++B').length+1:Nat):Int)-1=((P++G++B').length:Int):=⟨"'(A+1)-1='A"⟩;exact hP _ _ ?_;conv=>whnf
   split<;>rename_i g1
   ·exact iT hr (x:=.ref a) (by rw[ei];show ve ha) ?_;have:=ih B' (by rw[eB] at EI;simpa using EI) ([.cL]++T) (λr hr=>hB r (by rw[eB];simp[hr])) (by rw[eB] at hu;simpa using hu);have r:=Hk (K:=λt=>match t with
     |true=>P_ [(17,.ref dg),(6,.int ((((P++G++B').length+1:Nat):Int)-1))] Y
     |false=>Q (.int (((P++G++B').length+1:Nat):Int)) Y) jC hb (by
      show P_ [(17,.ref dg),(6,.int ((((P++G++B').length+1:Nat):Int)-1))] Y;rw[ei];show this)
    show r
   ·simp at g1;show fO ⟨"_,'A+'B+1:0",g1⟩
 show key B T hB hu
def ah0{n Q X c Y ra tk sv nt L M M' dg vs}{P U G B T:List Row}(h:Bs c Y ra false tk sv nt L M')(rq:sv<tk)(hL:L.length+8 * G.length<50000)(dG:0<=c.N)(hN:c.N<=8)(hr:Y dg=some (.lst vs))(PD:dg≠ra)(hu:UR Y vs (P++(U++G)++B++T))(hB:∀r∈B,r=.cL)(hP:P=[]\/∃P',P=P'++[.cL])(hU:U=[]\/U=[.iq sv])(hG:vo c.N M M' G)(PF:G≠[])
  (hq:∀Y' d7 tk' sv' L',Bs c Y' d7 false tk' sv' nt L' M->(if U=[] then sv'=sv/\sv'<tk' else sv'=tk')->L'.length<=L.length+8 * G.length\/U≠[]->xJ ra d7 Y Y'->Q (.int (P.length:Nat)) Y'):(Wn (n+13)).call 8 [.ref c.bf,.ref dg,.int ((P++(U++G)++B).length:Nat)] Q X Y:=by
 have PC:∀r∈U++G,xx r=false:=λr hr=>by
  rcases aJ.mp hr with hr | hr
  ·clear hq hu;rcases hU with rfl | rfl
   ·cases hr
   ·simp at hr;subst hr;rfl
  ·obtain⟨_,_,_,_,e,_⟩:=hG.ok r hr;subst e;rfl
 exact en (fd:=f8) rfl ?_;exact above hr hu h.cL hB (by simp[PF]) PC ?_;intro P_ XC;have stop:∀s,s dg=some (.lst vs)->UR s vs (P++(U++G)++B++T)->s 884=some (.tup [.str 16])->Q (.int (P.length:Nat)) s->P_ [(3,.ref c.bf),(17,.ref dg),(6,.int (P.length:Nat))] s:=by
  intro s vB vC PG hQ;exact XC _ _ ?_;rcases hP with rfl | ⟨P',rfl⟩
  ·show hQ
  ·have hi:((P'++[Row.cL])++(U++G)++B++T)[P'.length]?=some .cL:=by simp
   obtain⟨a,ha,jC⟩:=vC.at_ hi;have en:((P'++[Row.cL]).length:Nat)=P'.length+1:=by simp
   rw[en] at hQ ⊢;have ei:((P'.length+1:Nat):Int)-1=(P'.length:Int):=⟨"'(A+1)-1='A"⟩;conv=>whnf
   split<;>rename_i g1
   ·exact iT vB (x:=.ref a) (by rw[ei];show ve ha) ?_;have r:=Hk (K:=λt=>match !t with
     |true=>wSs (Wn (n+12)) [.asg (.v 6) (.call 20 [(.v 3),(.v 17),(.v 6)])] [(3,.ref c.bf),(17,.ref dg),(6,.int ((P'.length+1:Nat):Int))] P_ Q bW s
     |false=>Q (.int ((P'.length+1:Nat):Int)) s) jC PG hQ
    show r
   ·simp at g1
 have turn:∀(s:So) (i:Nat) (r:Row),s dg=some (.lst vs)->UR s vs (P++(U++G)++B++T)->s 884=some (.tup [.str 16])->(P++(U++G)++B++T)[i]?=some r->xx r=false->(Wn (n+12)).call 20 [.ref c.bf,.ref dg,.int ((i+1:Nat):Int)] (λv s=>P_ [(3,.ref c.bf),(17,.ref dg),(6,v)] s) bW s->P_ [(3,.ref c.bf),(17,.ref dg),(6,.int ((i+1:Nat):Int))] s:=by
  intro s i r vB vC PG hi hrb hc;obtain⟨a,ha,jC⟩:=vC.at_ hi;have ei:((i+1:Nat):Int)-1=(i:Int):=⟨"'(A+1)-1='A"⟩;exact XC _ _ ?_;conv=>whnf
  split<;>rename_i g1
  ·exact iT vB (x:=.ref a) (by rw[ei];show ve ha) ?_;have r:=Hk (K:=λt=>match !t with
    |true=>wSs (Wn (n+12)) [.asg (.v 6) (.call 20 [(.v 3),(.v 17),(.v 6)])] [(3,.ref c.bf),(17,.ref dg),(6,.int ((i+1:Nat):Int))] P_ Q bW s
    |false=>Q (.int ((i+1:Nat):Int)) s) jC PG (by rw[hrb];show hc)
   show r
  ·simp at g1
 have key:∀(G2 G1:List Row) (s:So) (tk':Int) (L':List Row) (N:Nat->Mp),G=G1++G2->Bs c s ra false tk' sv nt L' N->sv<tk'->L'.length<=L.length+8 * G2.length->dE ra Y s->(∀(i:Nat) k,N i k≠M i k->∃s e v,Row.prop s e k v∈G1/\s-1<=(i:Int)/\(i:Int)<e-1)->P_ [(3,.ref c.bf),(17,.ref dg),(6,.int ((P++(U++G1)).length:Nat))] s:=by
  intro G2 G1;induction hl:G1.length generalizing G1 G2 with
  |zero=>
   intro s tk' L' N eG hb qC oh fs hN;have:G1=[]:=eu.mp hl;subst this;have eN:N=M:=by
    funext i k
    cases oH (N i k=M i k) with
    |inl h=>show h
    |inr h=>obtain⟨_,_,_,h',_⟩:=hN i k h;cases h'
   clear hN;subst eN;have XD:G2.length=G.length:=by rw[eG];simp
   obtain⟨zs,vx,_⟩:=h.rows;have vB:=fs _ _ hr (λ_ _ e=>by cases e) PD;have vC:=hu.fr (fs.tup vx);rcases hU with rfl | rfl
   ·have e0:P++(([]:List Row)++[])=P:=by simp
    rw[e0];exact stop s vB vC hb.cL ?_;show hq s ra tk' sv L' hb (by rw[if_pos rfl];show⟨rfl,qC⟩) (.inl ⟨"A.B+8*C,A.B+8*D,D~C;1,1,8",oh,XD⟩) fs.x
   ·have e0:((P++([Row.iq sv]++[])).length:Nat)=P.length+1:=by simp
    rw[e0];have hi:(P++([Row.iq sv]++G)++B++T)[P.length]?=some (.iq sv):=by simp
    exact turn s P.length (.iq sv) vB vC hb.cL hi rfl ?_;exact ajy hb ⟨"A>60000,B+8*C>50000,A.B+8*D,D~C;1,1,1,8",hL,oh,XD⟩ vB vC hi λs' d7 HB bS fx=>?_;have PH:=(fx _ _ vB (λ_ _ e=>by cases e) PD).1;obtain⟨ws,PJ,_⟩:=hb.rows;have PK:=vC.fr λa xs ha=>(fx a _ ha (λ_ _ e=>by cases e) λe=>by nomatch e,PJ,ha).1
    exact stop s' PH PK bS.cL ?_;show hq s' d7 tk' tk' HB bS (by rw[if_neg (by simp)]) (.inr (by simp)) (fs.x.trans fx)
  |succ d ih=>
   intro s tk' L' N eG hb qC oh fs XE;obtain⟨Di,r,eG1⟩:∃Di r,G1=Di++[r]:=⟨_,_,(kr (by intro e;nomatch e,hl)).symm⟩
   subst eG1;have hrG:r∈G:=by rw[eG];simp
   obtain⟨s0,e0,k,v,rfl,q1,q2,q3,q4,q5,q6⟩:=hG.ok r hrG;obtain⟨zs,vx,_⟩:=h.rows;have vB:=fs _ _ hr (λ_ _ e=>by cases e) PD;have vC:=hu.fr (fs.tup vx);have en:((P++(U++(Di++[Row.prop s0 e0 k v]))).length:Nat)=(P++(U++Di)).length+1:=by simp;show⟨"A+(B+(C+1))~A+(B+C)+1"⟩
   rw[en];have hi:(P++(U++G)++B++T)[(P++(U++Di)).length]?=some (.prop s0 e0 k v):=by
    have:P++(U++G)++B++T=(P++(U++Di))++(Row.prop s0 e0 k v::(G2++B++T)):=by rw[eG];simp
    rw[this,fS (cy _)];simp
   have hlen:G2.length+(d+1)=G.length:=by rw[eG];simp at hl ⊢;show⟨"A+(B+1)~C+(A+1),C~B;1,-1;1,1",hl⟩
   exact turn s _ _ vB vC hb.cL hi rfl ?_;exact ajv hb qC ⟨"A>60000,B+8*C>50000,A.B+8*D,D+(E+1)~C;1,1,1,8",hL,oh,hlen⟩ dG hN vB vC hi q1 q2 q3 q4 q5 λs' ru HB bS ht PN f'=>?_;exact ih (Row.prop s0 e0 k v::G2) Di (by simpa using hl) s' ru HB _ (by rw[eG];simp) bS ⟨"a<b,a<c,c:b",qC,ht⟩ (by simp;show⟨"A.B+8*(C+1),D.B+8*C,A.D+8",oh,PN⟩) (fs.trans f') λi k' aU=>?_;unfold mapM at aU;by_cases g:s0-1<=(i:Int)/\(i:Int)<e0-1
   ·rw[if_pos g] at aU;have aU:(if k'=k then v else N i k')≠M i k':=aU;by_cases gk:k'=k
    ·rw[if_pos gk,gk,q6 i g.1 g.2] at aU;show absurd rfl aU
    ·rw[if_neg gk] at aU;obtain⟨s1,e1,v1,h1,h2,h3⟩:=XE i k' aU;rcases aJ.mp h1 with h1 | h1
     ·show⟨s1,e1,v1,h1,h2,h3⟩
     ·simp at h1;show absurd h1.2.2.1 gk
   ·rw[if_neg g] at aU;obtain⟨s1,e1,v1,h1,h2,h3⟩:=XE i k' aU;rcases aJ.mp h1 with h1 | h1
    ·show⟨s1,e1,v1,h1,h2,h3⟩
    ·simp at h1;show absurd ⟨by rw[<-h1.1];show h2,by rw[<-h1.2.1];show h3⟩ g
 show key [] G Y tk L M' (by simp) h rq (by simp) .refl hG.all
set_option tactic.hygienic false
structure Dk(Y:So)(dk d0:Nat)(j:Int):Prop where
 d:∃(l:List Int),Y dk=some (.lst [.ref d0,.int j])/\Y d0=some (.lst (l.map V.int))/\l.length<=60/\d0≠dk
 h0:0<=j
 h1:j<=1000
theorem na{x:Int}(h0:0<=x)(h:x<=2000000):x.natAbs<2 ^ 40:=
 Nat.lt_of_le_of_lt (m:=2000000) ⟨"A.2000000,a:2000000,'A=a",h,lT h0⟩ (by decide)
def draw{n Q X Y dk d0 j}{many:Int}(h:Dk Y dk d0 j)(hj:j<1000)(hm:0<many)(hq:∀r Y',0<=r->r<many->Dk Y' dk d0 (j+1)->(∀b,b≠dk->Y' b=Y b)->Q (.int r) Y'):(Wn (n+1)).call 2 [.ref dk,.int many] Q X Y:=by
 obtain⟨⟨l,h1,h2,h3,h4⟩,g0,g1⟩:=h;exact en (fd:=f2) rfl ?_;exact iT h1 (x:=.int j) rfl ?_;have hs:Fc (.ref dk) (.int 1) (.int (j+1)) (λs=>wSs (Wn n) (f2.body.drop 1) [(0,.ref dk),(2,.int many)] (qN Q) Q X s) Y:=by
  exact vN h1 ⟨by decide,by simp,?_⟩;show wSs (Wn n) (f2.body.drop 1) [(0,.ref dk),(2,.int many)] (qN Q) Q X (put Y dk (.lst ([V.ref d0,.int j].set 1 (.int (j+1)))));have e1:put Y dk (.lst ([V.ref d0,.int j].set 1 (.int (j+1)))) dk=some (.lst [.ref d0,.int (j+1)]):=au;have e2:put Y dk (.lst ([V.ref d0,.int j].set 1 (.int (j+1)))) d0=some (.lst (l.map V.int)):=by rw[ao h4];show h2
  have fin:∀r,0<=r->r<many->Q (.int r) (put Y dk (.lst ([V.ref d0,.int j].set 1 (.int (j+1))))):=λr r0 r1=>hq r _ r0 r1 ⟨⟨l,e1,e2,h3,h4⟩,⟨"0:a+1,0:a",g0⟩,⟨"a+1:1000,a<1000",hj⟩⟩ λb hb=>ao hb;generalize put Y dk (.lst ([V.ref d0,.int j].set 1 (.int (j+1))))=Y' at *;exact iT e1 (x:=.int (j+1)) rfl ?_;exact iT e1 (x:=.ref d0) rfl ?_
  exists e2
  conv=>whnf
  split<;>rename_i e
  ·simp at e;exact iT e1 (x:=.ref d0) rfl ?_;exact iT e1 (x:=.int (j+1)) rfl ?_;have hjl:j.toNat<l.length:=⟨"A>B,a+1:'B,'A=a",e,aH ⟨"0:a,0:a",g0⟩⟩;exact iT e2 (x:=.int (l[j.toNat])) ?_ ?_
   ·have:j+1-1=((j.toNat:Nat):Int):=⟨"a+1-1='A,'A=a;1,-1;1,1",aH ⟨"0:a,0:a",g0⟩⟩;rw[this];exact ve ?_;rw[mq,aS hjl];rfl
   ·show⟨hm,fin _ (yg _ hm) (yj _ hm)⟩
  ·exact iT e1 (x:=.int (j+1)) rfl ?_;exact iT e1 (x:=.int (j+1)) rfl ?_;have xP:(j+1) * (j+1)<=1001 * 1001:=Int.mul_le_mul ⟨"a+1:1001,a<1000",hj⟩ ⟨"a+1:1001,a<1000",hj⟩ ⟨"0:a+1,0:a",g0⟩ ⟨"0:1001"⟩;have PQ:0<=(j+1) * (j+1):=Int.mul_nonneg ⟨"0:a+1,0:a",g0⟩ ⟨"0:a+1,0:a",g0⟩;have j1:(j+1).natAbs<2 ^ 40:=na ⟨"0:a+1,0:a",g0⟩ ⟨"a+1:2000000,a<1000",hj⟩;exact⟨⟨j1,j1⟩,?_⟩;exact⟨⟨na PQ (bO xP (by decide)),by decide⟩,?_⟩;exact iT e1 (x:=.int (j+1)) rfl ?_;exact⟨⟨by decide,j1⟩,?_⟩;exact iT e1 (x:=.ref d0) rfl ?_
   exists e2
   exact⟨⟨by decide,by simp;show⟨"A>1099511627776,A.60",h3⟩⟩,?_⟩;exact⟨⟨by decide,by decide⟩,?_⟩;show⟨hm,fin _ (yg _ hm) (yj _ hm)⟩
 show hs
structure De where
 w:Nat
 s:Int
 e:Int
 x:Int
 y:Int
 f:Bool
inductive xQ(Y:So)(a:Nat)(d:De):Prop
 |mk (t:Nat) (h0:Y a=some (.tup [.str d.w,.int d.s,.int d.e,.ref t,.bool d.f])) (h1:Y t=some (.tup [.int d.x,.int d.y])):xQ Y a d
def De.ok(d:De):Prop:=(d.w=29\/d.w=30\/d.w=31)/\(0<=d.x/\d.x<=2)/\0<=d.y/\d.y<=2
def rA(dk:Nat)(Y Y':So):Prop:=∀b o,Y b=some o->b≠dk->Y' b=some o
theorem rA.trans{dk:Nat}{Y1 Y2 Y3:So}(x:rA dk Y1 Y2)(y:rA dk Y2 Y3):rA dk Y1 Y3:=λb o e n=>y b o (x b o e n) n
theorem Fr.oC{dk Y Y'}(f:Fr [] Y Y'):rA dk Y Y':=λb o e _=>f b o e (by simp)
theorem xR{dk:Nat}{Y':So}(f:∀b,b≠dk->Y' b=Y b):rA dk Y Y':=λb o e n=>(f b n).trans e
def Dk.new{Y dk d0 j Y'}(h:Dk Y dk d0 j)(f:Fr [] Y Y'):Dk Y' dk d0 j:=by
 obtain⟨⟨l,h1,h2,h3,h4⟩,g0,g1⟩:=h;show⟨⟨l,f.k h1,f.k h2,h3,h4⟩,g0,g1⟩
def pick{n Q X Y dk d0 j it xs}(h:Dk Y dk d0 j)(hj:j<1000)(hi:Y it=some (.lst xs))(hit:it≠dk)(hx:0<xs.length)(hq:∀(i:Nat) (v:V) Y',xs[i]?=some v->Dk Y' dk d0 (j+1)->(∀b,b≠dk->Y' b=Y b)->Q v Y'):(Wn (n+2)).call 13 [.ref dk,.ref it] Q X Y:=by
 exact en (fd:=Q6) rfl ?_
 exists hi
 exact draw h hj ⟨"0<'A,0>A",hx⟩ λr Y' r0 r1 h' f=>?_;have hr:r.toNat<xs.length:=⟨"A>B,a<'B,'A=a",r1,aH ⟨"0:a,0:a",r0⟩⟩;exact iT ((f it hit).trans hi) (x:=xs[r.toNat]) ?_ ?_
 ·unfold ix;rw[if_pos r0,aS hr]
 ·show hq r.toNat _ Y' (by rw[aS hr]) h' f
def deed{n Q X Y dk d0 j}{N:Int}(h:Dk Y dk d0 j)(hj:j+10<1000)(hN:0<=N)(hq:∀a d Y',xQ Y' a d->d.ok->Dk Y' dk d0 (j+6)->rA dk Y Y'->Q (.ref a) Y'):(Wn (n+3)).call 4 [.ref dk,.int N] Q X Y:=by
 exact en (fd:=f4) rfl ?_;intro it hit;have f1:Fr [] Y (put Y it (.lst [.str 29,.str 29,.str 30,.str 31])):=.new hit;have PR:it≠dk:=λe=>by
  obtain⟨l,h1,_⟩:=h.d
  nomatch e,h1,hit
 exact pick (h.new f1) ⟨"a<1000,a+10<1000",hj⟩ au PR (by simp) λi v Y2 hv h2 g2=>?_;obtain⟨w,rfl,hw⟩:∃w,v=.str w/\(w=29\/w=30\/w=31):=by
  have:=dp hv;simp at this;clear hv;rcases this with rfl | rfl | rfl
  ·show⟨29,rfl,by simp⟩
  ·show⟨30,rfl,by simp⟩
  ·show⟨31,rfl,by simp⟩
 exact draw h2 ⟨"a+1<1000,a+10<1000",hj⟩ ⟨"0<a+3,0:a",hN⟩ λone Y3 _ _ h3 g3=>?_;exact draw h3 ⟨"a+1+1<1000,a+10<1000",hj⟩ ⟨"0<a+2,0:a",hN⟩ λother Y4 _ _ h4 g4=>?_;intro c5 Pp;have f5:Fr [] Y4 (put Y4 c5 (.tup [.int one,.int other])):=.new Pp
 exists au
 exact⟨rfl,?_⟩;exact draw (h4.new f5) ⟨"a+1+1+1<1000,a+10<1000",hj⟩ (by decide) λx Y6 x0 x1 h6 g6=>?_;exact draw h6 ⟨"a+1+1+1+1<1000,a+10<1000",hj⟩ (by decide) λy Y7 y0 y1 h7 g7=>?_;intro t ht;have f8:Fr [] Y7 (put Y7 t (.tup [.int x,.int y])):=.new ht;exact draw (h7.new f8) ⟨"a+1+1+1+1+1<1000,a+10<1000",hj⟩ (by decide) λz Y9 z0 z1 h9 g9=>?_;have tdk:t≠dk:=λe=>by
  obtain⟨l,h1,_⟩:=h7.d
  nomatch e,h1,ht
 have ht9:Y9 t=some (.tup [.int x,.int y]):=(g9 t tdk).trans au;have fin:∀f:Bool,∀a,Y9 a=none->Q (.ref a) (put Y9 a (.tup [.str w,.int one,.int (1+other),.ref t,.bool f])):=λf a ha=>by
  have rF:Fr [] Y9 (put Y9 a (.tup [.str w,.int one,.int (1+other),.ref t,.bool f])):=.new ha;exact hq a ⟨w,one,1+other,x,y,f⟩ _ ⟨t,au,rF.k ht9⟩ ⟨hw,⟨x0,by show x<=2;show⟨"a:2,a<3",x1⟩⟩,y0,by show y<=2;show⟨"a:2,a<3",y1⟩⟩ ?_ ?_
  ·have:=h9.new rF;have e:j+1+1+1+1+1+1=j+6:=⟨"a+1+1+1+1+1+1=a+6"⟩
   rewrite [e] at this
   show this
  ·show((((((((f1.oC.trans (xR g2)).trans (xR g3)).trans (xR g4)).trans f5.oC).trans (xR g6)).trans (xR g7)).trans f8.oC).trans (xR g9)).trans rF.oC
 show fin (decide (z=1))
def lP(d:De):Mp->Mp:=λm=>if d.w=29 then upd m d.x (some d.y) else if d.w=30 then (λk=>if k∈[d.x,d.y] then none else m k) else if d.f=true then (λk=>if k=d.x then some d.y else none) else λ_=>none
def oE(d:De)(M:Nat->Mp):Nat->Mp:=mapM M (eO d.s d.e-1) (fA d.s d.e-1) (lP d)
open Classical in
def eX(N:Int)(d:De)(rd:Bool)(M:Nat->Mp):V:=if eO d.s d.e<1\/N+1<fA d.s d.e then .str 34 else if rd=true/\d.w=31 then .str 35 else if oE d M=M then .bool false else if rd=true then .str 35 else .bool true
def EJ{N d rd M}(h:eO d.s d.e<1\/N+1<fA d.s d.e):eX N d rd M=.str 34:=by unfold eX;rw[if_pos h]
def PS{N d M}(h1:1<=eO d.s d.e)(h2:fA d.s d.e<=N+1)(hw:d.w=31):eX N d true M=.str 35:=by unfold eX;rw[if_neg (λqq=>qq.elim (λqq=>⟨"_,1:a,a<1;0,1,1",h1,qq⟩) λqq=>⟨"_,a:b+1,b+1<a;0,1,1",h2,qq⟩),if_pos ⟨rfl,hw⟩]
def PW{N d rd M}(h1:1<=eO d.s d.e)(h2:fA d.s d.e<=N+1)(hr:¬ (rd=true/\d.w=31))(h:oE d M=M):eX N d rd M=.bool false:=by unfold eX;rw[if_neg (λqq=>qq.elim (λqq=>⟨"_,1:a,a<1;0,1,1",h1,qq⟩) λqq=>⟨"_,a:b+1,b+1<a;0,1,1",h2,qq⟩),if_neg hr,if_pos h]
def PX{N d M}(h1:1<=eO d.s d.e)(h2:fA d.s d.e<=N+1)(h:oE d M≠M):eX N d true M=.str 35:=by
 unfold eX;rw[if_neg (λqq=>qq.elim (λqq=>⟨"_,1:a,a<1;0,1,1",h1,qq⟩) λqq=>⟨"_,a:b+1,b+1<a;0,1,1",h2,qq⟩)];by_cases hw:d.w=31
 ·rw[if_pos ⟨rfl,hw⟩]
 ·rw[if_neg (λe=>hw e.2),if_neg h,if_pos rfl]
def XF{N d M}(h1:1<=eO d.s d.e)(h2:fA d.s d.e<=N+1)(h:oE d M≠M):eX N d false M=.bool true:=by unfold eX;rw[if_neg (λqq=>qq.elim (λqq=>⟨"_,1:a,a<1;0,1,1",h1,qq⟩) λqq=>⟨"_,a:b+1,b+1<a;0,1,1",h2,qq⟩),if_neg (by simp),if_neg h,if_neg (by simp)]
def PY{n Q c Y ra rd tk sv nt L M}{d:De}{aw:List Nat}{bd:E}{aG:Env}(h:Bs c Y ra rd tk sv nt L M)(hL:L.length<50000)(dG:0<=c.N)(hN:c.N<=8)(rO:¬ (rd=true/\d.w=31))
  (iR:∀s p m Q',Fr [] Y s->GP s p m->(∀q s',s q=none->Fr [] s s'->GP s' q (lP d m)->Q' (.ref q) s')->(Wn (n+9)).nS aw bd aG [.ref p] Q' s)
  (gj:eX c.N d rd M≠.bool true->∀Y',Fr [] Y Y'->Q (eX c.N d rd M) Y')
  (lE:eX c.N d rd M=.bool true->∀Y' G,Bs c Y' ra rd (tk+1) sv (jE tk sv nt) (L++pc tk sv nt++G) (oE d M)->vo c.N M (oE d M) G->G≠[]->G.length<=60->dE ra Y Y'->Q (.bool true) Y')
  : (Wn (n+10)).call 26 [.ref c.bf,.int d.s,.int d.e,.dz aw bd aG] Q (λk s=>Q (.str k) s) Y:=by
 exact ajb h hL dG hN iR (λg Y' f=>?_) (λg1 g2 g3 g4 Y' f=>?_) (λg1 g2 g3 Y' f=>?_) (λg1 g2 g3 g4 Y' G hb hg hn hl f=>?_)
 ·have:=gj (by rw[EJ g];simp) Y' f
  rewrite [EJ g] at this;show this
 ·clear h rO lE;subst g4;have:=gj (by rw[PX g1 g2 g3];simp) Y' f
  rewrite [PX g1 g2 g3] at this;show this
 ·have:=gj (by rw[PW g1 g2 rO g3];simp) Y' f
  rewrite [PW g1 g2 rO g3] at this;show this
 ·clear h rO gj;subst g4;show lE (XF g1 g2 g3) Y' G hb hg hn hl f
def done{n Q X c Y ra rd tk sv nt L M a}{d:De}(h:Bs c Y ra rd tk sv nt L M)(hL:L.length<50000)(dG:0<=c.N)(hN:c.N<=8)(hd:xQ Y a d)(aA:d.ok)
  (gj:eX c.N d rd M≠.bool true->∀Y',Fr [] Y Y'->Q (eX c.N d rd M) Y')
  (lE:eX c.N d rd M=.bool true->∀Y' G,Bs c Y' ra rd (tk+1) sv (jE tk sv nt) (L++pc tk sv nt++G) (oE d M)->vo c.N M (oE d M) G->G≠[]->G.length<=60->dE ra Y Y'->Q (.bool true) Y')
  : (Wn (n+12)).call 6 [.ref c.bf,.ref a] Q X Y:=by
 obtain⟨t,h1,h2⟩:=hd;obtain⟨hw,hx,hy⟩:=aA;exact en (fd:=f6) rfl ?_;exact aaa h1 (x:=.str d.w) rfl ?_;rcases hw with hw | hw | hw
 ·rw[hw] at h1 ⊢;exact aaa h1 (x:=.int d.s) rfl ?_;exact aaa h1 (x:=.int d.e) rfl ?_;exact aaa h1 (x:=.ref t) rfl ?_;exact aaa h2 (x:=.int d.x) rfl ?_;exact aaa h1 (x:=.ref t) rfl ?_;exact aaa h2 (x:=.int d.y) rfl ?_;exact en (fd:=Q8) rfl ?_;exact PY h hL dG hN (by rw[hw];simp) (λs p m Q' fs hp hQ=>?_) gj lE;exact A2 hp hx.1 hx.2 λq s' hq f' g=>hQ q s' hq f' ?_;unfold lP;rw[if_pos hw];show g
 ·rw[hw] at h1 ⊢;exact aaa h1 (x:=.str 30) rfl ?_;exact aaa h1 (x:=.int d.s) rfl ?_;exact aaa h1 (x:=.int d.e) rfl ?_;exact aaa h1 (x:=.ref t) rfl ?_;exact al4 h2 (by show 2<big;decide) λb hb=>?_;have f1:Fr [] Y (put Y b (.lst [.int d.x,.int d.y])):=.new hb;exact en (fd:=Q9) rfl ?_;exact PY (h.bj f1) hL dG hN (by rw[hw];simp) (λs p m Q' fs hp hQ=>?_) (λg Y' f'=>gj g Y' (f1.trans f')) (λg Y' G a1 a2 a3 a4 a5=>lE g Y' G a1 a2 a3 a4 (f1.dI.trans a5));exact ajT (X:=bW) (ns:=[d.x,d.y]) hp (fs.k au) λq s' hq f' g=>hQ q s' hq f' ?_;unfold lP;rw[if_neg (by rw[hw];decide),if_pos hw];show g
 ·rw[hw] at h1 ⊢;exact aaa h1 (x:=.str 31) rfl ?_;exact aaa h1 (x:=.int d.s) rfl ?_;exact aaa h1 (x:=.int d.e) rfl ?_;exact aaa h1 (x:=.bool d.f) rfl ?_;have all:∀(b:Nat) (s:So) (m0:Mp),Fr [] Y s->GP s b m0->(∀m,lP d m=m0)->(Wn (n+11)).call 17 [.ref c.bf,.int d.s,.int d.e,.ref b] Q (λk s=>Q (.str k) s) s:=by
   intro b s m0 fs hb hF;have hs:=h.bj fs;exact en (fd:=Rc) rfl ?_;exact Xl hs (λg Y' f=>?_) λg1 g2 a' Y1 f1 _=>?_
   ·have:=gj (by rw[EJ g];simp) Y' (fs.trans f)
    rewrite [EJ g] at this;show this
   ·have h3:=hs.bj f1;have wK:=fs.trans f1;exact Xm h3 (λe Y' f=>?_) λBa=>?_
    ·clear h h3 lE hs;subst e;have:=gj (by rw[PS g1 g2 hw];simp) Y' (wK.trans f)
     rewrite [PS g1 g2 hw] at this;show this
    ·exact PY (d:=d) h3 hL dG hN (by rw[Ba];simp) (λs2 p m Q' f2 hp hQ=>?_) (λg Y' f'=>gj g Y' (wK.trans f')) (λg Y' G a1 a2 a3 a4 a5=>lE g Y' G a1 a2 a3 a4 (wK.dI.trans a5));obtain⟨l,⟨vs,k1,k2⟩,k3,k4⟩:=hb.bj (f1.trans f2);have kl:=k2.len;have k3l:=k3.len;exact NK k1 (by unfold big;show⟨"A>100000,A~B,B.3",kl,k3l⟩) λq hq=>?_;have f3:Fr [] s2 (put s2 q (.lst vs)):=.new hq;exact hQ q _ hq f3 ?_;rw[hF m];show⟨l,⟨vs,au,k2.fr λa xs ha=>f3 a _ ha (by simp)⟩,k3,k4⟩
  have dF:∀m,lP d m=if d.f=true then (λk=>if k=d.x then some d.y else none) else λ_=>none:=λm=>by
   unfold lP;rw[if_neg (by rw[hw];decide),if_neg (by rw[hw];decide)]
  cases hf:d.f with
  |true=>
   rewrite [hf] at h1
   exact aaa h1 (x:=.ref t) rfl ?_;intro b hb;have f1:Fr [] Y (put Y b (.lst [.ref t])):=.new hb;exact all b _ (λk=>if k=d.x then some d.y else none) f1 ⟨[(d.x,d.y)],⟨_,au,.cons (f1.k h2) .nil⟩,⟨by simp,λe he=>by simp at he;subst he;show hx⟩,λk=>?_⟩ λm=>by rw[dF,if_pos hf]
   show(if d.x=k then some d.y else none)=if k=d.x then some d.y else none;by_cases e:k=d.x
   ·rw[if_pos e,if_pos e.symm]
   ·rw[if_neg e,if_neg (aj e)]
  |false=>
   intro b hb;show all b _ (λ_=>none) (.new hb) ⟨[],⟨_,au,.nil⟩,⟨by simp,by simp⟩,λk=>rfl⟩ λm=>by rw[dF,if_neg (by rw[hf];decide)]
def Dc(es:List (Int×V))(m:Mp):Prop:=(es.map (·.1)).Nodup/\(∀p∈es,(0<=p.1/\p.1<=2)/\∃j,p.2=.int j)/\∀k,fB es k=(m k).map V.int
def alX{x:V}{k:Int}:fB (dup es i x) k=if k=i then some x else fB es k:=by
 induction es with
 |nil=>
  show(if i=k then some x else none)=_;by_cases h:k=i
  ·rw[if_pos h,if_pos h.symm]
  ·rw[if_neg h,if_neg (aj h)];rfl
 |cons p es ih=>
  obtain⟨a,b⟩:=p;dsimp only[dup];by_cases h:a=i
  ·rw[if_pos h];show(if a=k then some x else fB es k)=if k=i then some x else (if a=k then some b else fB es k);subst h;by_cases q:a=k
   ·rw[if_pos q,if_pos q.symm]
   ·rw[if_neg q,if_neg (aj q),if_neg q]
  ·rw[if_neg h];show(if a=k then some b else fB (dup es i x) k)=if k=i then some x else (if a=k then some b else fB es k);rw[ih];by_cases q:a=k
   ·subst q;rw[if_pos rfl,if_neg h,if_pos rfl]
   ·rw[if_neg q,if_neg q]
def XG{x:V}{p:Int×V}(h:p∈dup es i x):p=(i,x)\/p∈es:=by
 induction es with
 |nil=>show .inl (ku.mp h)
 |cons q es ih=>
  obtain⟨a,b⟩:=q;dsimp only[dup] at h;by_cases e:a=i
  ·rw[if_pos e] at h;rcases az.mp h with h | h
   ·left;rw[h,e]
   ·right;show .tail _ h
  ·rw[if_neg e] at h;rcases az.mp h with h | h
   ·right;rw[h];show .head _
   ·rcases ih h with h | h
    ·show .inl h
    ·show .inr (.tail _ h)
def akh{x:V}(h:(es.map (·.1)).Nodup):((dup es i x).map (·.1)).Nodup:=by
 induction es with
 |nil=>show aX.mpr ⟨sF,o9⟩
 |cons q es ih=>
  obtain⟨a,b⟩:=q;have h':(a::es.map (·.1)).Nodup:=h;rw[aX] at h';dsimp only[dup];by_cases e:a=i
  ·rw[if_pos e];show h
  ·rw[if_neg e];show(a::(dup es i x).map (·.1)).Nodup;rw[aX];exact⟨λhm=>?_,ih h'.2⟩;obtain⟨p,hp,ep⟩:=aQ.mp hm;rcases XG hp with rfl | hp
   ·show e ep.symm
   ·show h'.1 (aQ.mpr ⟨p,hp,ep⟩)
def Dc.dup{es m}{x y:Int}(h:Dc es m)(h0:0<=x)(h2:x<=2):Dc (Tactic.dup es x (.int y)) (upd m x (some y)):=by
 exact⟨akh h.1,λp hp=>?_,λk=>?_⟩
 ·rcases XG hp with rfl | hp
  ·show⟨⟨h0,h2⟩,y,rfl⟩
  ·show h.2.1 p hp
 ·rw[alX,h.2.2];unfold upd;by_cases e:k=x<;>simp[e]
theorem Dc.nil:Dc [] λ_=>none:=⟨by simp,by simp,λk=>rfl⟩
def EK{k:Int}:fB es k=none↔k∉es.map (·.1):=by
 induction es with
 |nil=>show iff_of_true rfl sF
 |cons e l ih=>
  obtain⟨a,b⟩:=e;dsimp only[fB];by_cases q:a=k
  ·simp[q]
  ·rw[if_neg q,ih];simp[aj q]
def HC{k:Int}(h:fB es k=some v):(k,v)∈es:=by
 induction es with
 |nil=>cases h
 |cons e l ih=>
  obtain⟨a,b⟩:=e;dsimp only[fB] at h;split at h
  ·rename_i q;subst q;cases h;show .head _
  ·show .tail _ (ih h)
def Ki{k:Int}(hn:(es.map (·.1)).Nodup)(h:(k,v)∈es):fB es k=some v:=by
 induction es with
 |nil=>cases h
 |cons e l ih=>
  obtain⟨a,b⟩:=e;have lL:(a::l.map (·.1)).Nodup:=hn;rw[aX] at lL;dsimp only[fB];rcases az.mp h with e | h
  ·cases e;rw[if_pos rfl]
  ·rw[if_neg,ih lL.2 h];intro q;subst q;show lL.1 (aQ.mpr ⟨_,h,rfl⟩)
def amz{x:V}(h:i∉es.map (·.1)):dup es i x=es++[(i,x)]:=by
 induction es with
 |nil=>rfl
 |cons e l ih=>
  obtain⟨a,b⟩:=e;simp at h;dsimp only[dup];rw[if_neg (λq=>h.1 q.symm),ih (by simpa using h.2)];rfl
def XH{d:List (Int×V)}(h:(d.map (·.1)).Nodup):Iq d=d:=by
 have key:∀(d acc:List (Int×V)),((acc++d).map (·.1)).Nodup->d.foldl (λd p=>dup d p.1 p.2) acc=acc++d:=by
  intro d;induction d with
  |nil=>intro acc _;simp
  |cons p d ih=>
   intro acc hn;have:p.1∉acc.map (·.1):=λhm=>by
    rw[fW,bF] at hn;show hn.2.2 _ hm p.1 (by simp) rfl
   rw[yO,amz this,ih _ (by simpa using hn)];simp
 unfold Iq
 simpa using key d [] (by simpa using h)
def Dc.filter{es m}{f:Int->Bool}(h:Dc es m):Dc (es.filter λp=>f p.1) (λk=>if f k then m k else none):=by
 have hn:((es.filter λp=>f p.1).map (·.1)).Nodup:=h.1.sublist (yH.map _);exact⟨hn,λp hp=>h.2.1 p (gV.mp hp).1,λk=>?_⟩;show _=sX V.int (if f k=true then m k else none);by_cases hf:f k=true
 ·rw[if_pos hf];cases hm:m k with
  |none=>
   show _=none;rw[EK];intro hk;obtain⟨p,hp,e⟩:=aQ.mp hk;have:=h.2.2 k;rw[hm] at this;show(EK.mp this) (aQ.mpr ⟨p,(gV.mp hp).1,e⟩)
  |some v=>
   have:=h.2.2 k;rw[hm] at this;show Ki hn (gV.mpr ⟨HC this,hf⟩)
 ·rw[if_neg hf];show _=none;rw[EK];intro hk;obtain⟨p,hp,e⟩:=aQ.mp hk;have:=(gV.mp hp).2;rw[e] at this;show hf this
def Dc.len{es m}(h:Dc es m):es.length<=3:=by
 have:=Ow (b:=3) h.1 λk hk=>by
  obtain⟨e,he,rfl⟩:=aQ.mp hk;show⟨(h.2.1 e he).1.1,yh (h.2.1 e he).1.2⟩
 simpa using this
def Dc.eq{es fG m m'}(h:Dc es m)(h':Dc fG m'):wy es fG↔m=m':=by
 constructor
 ·rintro⟨hl,ha⟩
  funext k
  cases hm:m k with
  |some v=>
   have:=h.2.2 k;rw[hm] at this;obtain⟨i,e1,e2⟩:=ha _ (HC this);have e3:V.int v=.int i:=e1;have rh:fB fG k=some (.int i):=e2;rw[h'.2.2 k] at rh;cases jJ:m' k with
   |none=>nomatch jJ,rh
   |some w=>nomatch jJ,rh;cases e3;rfl
  |none=>
   cases jJ:m' k with
   |none=>rfl
   |some w=>
    exfalso;have a1:=h'.2.2 k;rw[jJ] at a1;have:=W7 (A:=es.map (·.1)) (B:=fG.map (·.1)) h.1 (λx hx=>by
     obtain⟨e,he,rfl⟩:=aQ.mp hx;obtain⟨i,e1,e2⟩:=ha e he;show aQ.mpr ⟨_,HC e2,rfl⟩) (by simp;show⟨"A.B,B~A;1,-1",hl⟩) k (aQ.mpr ⟨_,HC a1,rfl⟩)
    have a2:=h.2.2 k;rw[hm] at a2;show EK.mp a2 this
 ·rintro rfl;have hs:∀x,x∈es.map (·.1)↔x∈fG.map (·.1):=λx=>by
   have a:fB es x=none↔fB fG x=none:=by rw[h.2.2,h'.2.2]
   rw[EK,EK] at a;show ye.mp a
  have a1:=sub_len h.1 λx hx=>(hs x).mp hx;have a2:=sub_len h'.1 λx hx=>(hs x).mpr hx;simp at a1 a2;exact⟨⟨"A~B,A.B,B.A;1,1,0;1,0,1",a1,a2⟩,λp hp=>?_⟩;obtain⟨_,j,hj⟩:=h.2.1 p hp;exact⟨j,hj,?_⟩;have:fB es p.1=some (.int j):=Ki h.1 (by rw[<-hj];show hp);rw[h'.2.2,<-h.2.2,this]
def DM(Y:So)(as:List Nat)(M:Nat->Mp)(N:Int):Prop:=as.length=N.toNat/\∀(i:Nat) a,as[i]?=some a->∃es ep,Y a=some (.cu es ep)/\Dc es (M i)
inductive DL(Y:So)(x:Nat)(M:Nat->Mp)(N:Int):Prop
 |mk (as:List Nat) (h0:Y x=some (.lst (as.map V.ref))) (h1:DM Y as M N):DL Y x M N
def DM.fr{Y Y' as M N}(h:DM Y as M N)(f:∀a es ep,Y a=some (.cu es ep)->Y' a=some (.cu es ep)):DM Y' as M N:=by
 exact⟨h.1,λi a ha=>?_⟩;obtain⟨es,ep,h1,h2⟩:=h.2 i a ha;show⟨es,ep,f _ _ _ h1,h2⟩
def DM.XI{Y as M N}(h:DM Y as M N):∃ds,qO Y (as.map V.ref) ds/\ds.length=as.length/\∀(i:Nat) es,ds[i]?=some es->Dc es (M i):=by
 have key:∀(as:List Nat) (j:Nat),(∀(i:Nat) a,as[i]?=some a->∃es ep,Y a=some (.cu es ep)/\Dc es (M (j+i)))->∃ds,qO Y (as.map V.ref) ds/\ds.length=as.length/\∀(i:Nat) es,ds[i]?=some es->Dc es (M (j+i)):=by
  intro as;induction as with
  |nil=>intro j _;show⟨[],.nil,rfl,by simp⟩
  |cons a as ih=>
   intro j h;obtain⟨es,ep,h1,h2⟩:=h 0 a rfl;obtain⟨ds,d1,d2,d3⟩:=ih (j+1) λi a ha=>by
    have:=h (i+1) a (by simpa using ha)
    rwa [show j+(i+1)=j+1+i by show⟨"A+(B+1)~A+1+B"⟩] at this
   exact⟨es::ds,.cons h1 (λp hp=>(h2.2.1 p hp).2) d1,by simp[d2],λi fG he=>?_⟩;cases i with
   |zero=>simp at he;subst he;show h2
   |succ i=>
    have:=d3 i fG (by simpa using he)
    rwa [show j+1+i=j+(i+1) by show⟨"A+1+B~A+(B+1)"⟩] at this
 have:=key as 0 (by simpa using h.2)
 simpa using this
def aoB{Y x y M M' N}{K:Bool->Prop}(h:DL Y x M N)(h':DL Y y M' N)(h1:(∀i:Nat,i<N.toNat->M i=M' i)->K true)(h0:¬ (∀i:Nat,i<N.toNat->M i=M' i)->K false):eqs (.ref x) (.ref y) K Y:=by
 obtain⟨as,a1,a2⟩:=h;obtain⟨bs,b1,b2⟩:=h';obtain⟨ds,d1,d2,d3⟩:=a2.XI;obtain⟨es,e1,e2,e3⟩:=b2.XI;have l1:=a2.1;have l2:=b2.1;have main:(ds.length=es.length/\∀p∈ds.zip es,wy p.1 p.2)↔∀i:Nat,i<N.toNat->M i=M' i:=by
  constructor
  ·rintro⟨_,hz⟩ i hi;have XJ:i<ds.length:=⟨"A>B,B~C,C~D,A>D;1,-1,-1,1",d2,l1,hi⟩;have iU:i<es.length:=⟨"A>B,B~C,C~D,A>D;1,-1,-1,1",e2,l2,hi⟩;have:=hz (ds[i],es[i]) (by
    have:(ds.zip es)[i]'(by simp;show Nat.lt_min.mpr ⟨XJ,iU⟩)=(ds[i],es[i]):=by simp
    rw[<-this];show gU _)
   show(Dc.eq (d3 i _ (by rw[aS XJ])) (e3 i _ (by rw[aS iU]))).mp this
  ·intro hM;exact⟨⟨"A~B,A~C,B~D,C~E,D~E;1,1,-1,1,-1;1,-1,1,-1,1",d2,e2,l1,l2⟩,λp hp=>?_⟩;obtain⟨i,hi,e⟩:=gT hp;have uJ:i<ds.length/\i<es.length:=by simp at hi;show⟨⟨"A>B,A>C,C.B",hi,fe _ _⟩,⟨"A>B,A>C,C.B",hi,mx _ _⟩⟩
   have ep:p=(ds[i]'uJ.1,es[i]'uJ.2):=by rw[<-e];simp
   rw[ep];show(Dc.eq (d3 i _ (by rw[aS uJ.1])) (e3 i _ (by rw[aS uJ.2]))).mpr (hM i ⟨"A>B,C~D,D~B,A>C",d2,l1,uJ.1⟩)
 show .inr ⟨x,y,_,_,ds,es,rfl,rfl,a1,b1,d1,e1,λg=>h1 (main.mp g),λg=>h0 λg'=>g (main.mpr g')⟩
set_option tactic.hygienic true
def Dj(M:Nat->Mp)(i:Nat)(m:Mp):Nat->Mp:=λj=>if j=i then m else M j
structure Fo(Y0 s:So)(fa:Nat)(bs:List Nat)(M:Nat->Mp)(N:Int):Prop where
 l:s fa=some (.lst (bs.map V.ref))
 nd:∀(i j:Nat) a,bs[i]?=some a->bs[j]?=some a->i=j
 nw:∀b∈bs,Y0 b=none
 nf:Y0 fa=none
 fb:fa∉bs
 dm:DM s bs M N
 fr:Fr [] Y0 s
theorem Fo.bj{Y0 s s' fa bs M N}(h:Fo Y0 s fa bs M N)(f:Fr [] s s'):Fo Y0 s' fa bs M N:=⟨f.k h.l,h.nd,h.nw,h.nf,h.fb,h.dm.fr λa es ep e=>f.k e,h.fr.trans f⟩
def Fo.at_{Y0 s fa bs M N}(h:Fo Y0 s fa bs M N){i:Nat}(hi:i<N.toNat):∃b es ep,bs[i]?=some b/\s b=some (.cu es ep)/\Dc es (M i):=by
 have hl:=h.dm.1;have:i<bs.length:=⟨"A>B,A>C,B~C;1,1,-1",hi,hl⟩;obtain⟨es,ep,h1,h2⟩:=h.dm.2 i _ (aS this);show⟨_,es,ep,aS this,h1,h2⟩
def Fo.mut{Y0 s fa bs M N i b fG ep m'}(h:Fo Y0 s fa bs M N)(hb:bs[i]?=some b)(hd:Dc fG m'):Fo Y0 (put s b (.cu fG ep)) fa bs (Dj M i m') N:=by
 have XM:=dp hb;exact⟨by rw[ao λe=>h.fb (by rw[e];show XM)];show h.l,h.nd,h.nw,h.nf,h.fb,⟨h.dm.1,λj a ha=>?_⟩,λx o hx _=>?_⟩
 ·dsimp only[Dj];by_cases e:j=i
  ·subst e
   nomatch hb,ha
   rw[if_pos rfl];show⟨fG,ep,au,hd⟩
  ·rw[if_neg e];obtain⟨es,gy,h1,h2⟩:=h.dm.2 j a ha;exact⟨es,gy,?_,h2⟩;rw[ao λq=>?_]
   ·show h1
   ·show e (h.nd j i a ha (by rw[q];show hb))
 ·rw[ao λe=>by nomatch e,h.nw b XM,hx]
  show h.fr x o hx (by simp)
def Fo.repl{Y0 s fa bs M N i c fG ep m'}(h:Fo Y0 s fa bs M N)(hi:i<N.toNat)(hc:s c=none)(hd:Dc fG m'):Fo Y0 (put (put s c (.cu fG ep)) fa (.lst ((bs.map V.ref).set i (.ref c)))) fa (bs.set i c) (Dj M i m') N:=by
 have hl:=h.dm.1;have XO:c≠fa:=λe=>by nomatch e,h.l,hc
 have XQ:c∉bs:=λhm=>by
  obtain⟨j,hj,e⟩:=gT hm;obtain⟨es,ep,h1,_⟩:=h.dm.2 j c (by rw[aS hj,e])
  nomatch hc,h1
 exact⟨?_,?_,?_,h.nf,?_,⟨by rw[yN];show hl,λj a ha=>?_⟩,λx o hx _=>?_⟩
 ·rw[List.map_set];show au
 ·intro a b z ha hb;rw[yL] at ha hb;by_cases e1:i=a
  ·by_cases e2:i=b
   ·rw[<-e1,<-e2]
   ·rewrite [if_pos e1,if_pos (by show⟨"A>B,A>C,B~C;1,1,-1",hi,hl⟩)] at ha
    rewrite [if_neg e2] at hb
    cases ha
    show absurd (dp hb) XQ
  ·by_cases e2:i=b
   ·rewrite [if_pos e2,if_pos (by show⟨"A>B,A>C,B~C;1,1,-1",hi,hl⟩)] at hb
    rewrite [if_neg e1] at ha
    cases hb
    show absurd (dp ha) XQ
   ·rewrite [if_neg e1] at ha
    rewrite [if_neg e2] at hb
    show h.nd a b z ha hb
 ·intro b hb;rcases yu hb with hb | rfl
  ·show h.nw b hb
  ·cases hs:Y0 b with
   |none=>rfl
   |some o=>nomatch h.fr b o hs (by simp),hc
 ·intro hm;rcases yu hm with hm | e
  ·show h.fb hm
  ·show XO e.symm
 ·dsimp only[Dj]
  rewrite [yL] at ha
  by_cases e:i=j
  ·nomatch if_pos e,if_pos (by show⟨"A>B,A>C,B~C;1,1,-1",hi,hl⟩),ha
   rw[if_pos e.symm];show⟨fG,ep,by rw[ao XO];show au,hd⟩
  ·rewrite [if_neg e] at ha
   rw[if_neg (aj e)];obtain⟨es,gy,h1,h2⟩:=h.dm.2 j a ha;exact⟨es,gy,?_,h2⟩;rw[ao (λq=>h.fb (by rw[<-q];show dp ha)),ao (λq=>by nomatch q,hc,h1)]
   show h1
 ·rw[ao (λe=>by nomatch e,h.nf,hx),ao (λe=>by rewrite [e] at hx;nomatch h.fr c o hx (by simp),hc)]
  show h.fr x o hx (by simp)
def aju{M:Nat->Mp}{F:Mp->Mp}{b:Int}{i:Nat}(h:b<=(i:Int)):mapM M b ((i:Int)+1) F=Dj (mapM M b (i:Int) F) i (F (M i)):=by
 funext j
 dsimp only[mapM,Dj];by_cases e:j=i
 ·subst e;rw[if_pos rfl,if_pos ⟨⟨"a:'A,a:'A",h⟩,⟨"'A<'A+1"⟩⟩]
 ·rw[if_neg e];show _=if b<=(j:Int)/\(j:Int)<(i:Int) then F (M j) else M j;by_cases g:b<=(j:Int)/\(j:Int)<(i:Int)
  ·rw[if_pos g,if_pos ⟨⟨"a:'A,a:'A",g.1⟩,⟨"'A<'B+1,'A<'B",g.2⟩⟩]
  ·rw[if_neg g,if_neg λz=>g ⟨z.1,iW.mpr ⟨⟨"'A:'B,'A<'B+1",z.2⟩,λx=>e (yr.mp x)⟩⟩]
def alT{M:Nat->Mp}{F:Mp->Mp}{b:Int}{i:Nat}:mapM M b (i:Int) F i=M i:=by
 dsimp only[mapM];rw[if_neg (λqq=>⟨"_,'A<'A;0,1",qq.2⟩)]
def XR{l:List V}{d:List (Int×V)}{a:Nat}(h:DO s l d)(ha:s a=some (.tup [.int i,.int j])):DO s (l++[V.ref a]) (d++[(i,V.int j)]):=by
 induction h with
 |nil=>show .cons ha .nil
 |cons e _ ih=>show .cons e ih
def XS{l:List V}{d:List (Int×V)}(h:DO s l d)(f:∀a xs,s a=some (.tup xs)->s' a=some (.tup xs)):DO s' l d:=by
 induction h with
 |nil=>show .nil
 |cons e _ ih=>show .cons (f _ _ e) ih
theorem al8{a xs}{i:Nat}{K:So->Prop}(h:Y a=some (.lst xs))(hi:i<xs.length)(hk:K (put Y a (.lst (xs.set i v)))):Fc (.ref a) (.int (i:Int)) v K Y:=vN h ⟨⟨"0:'A"⟩,⟨"'A<'B,A>B",hi⟩,hk⟩
theorem amy{a es ep}{K:So->Prop}(h:Y a=some (.cu es ep))(hl:es.length<1000)(hk:∀ep,K (put Y a (.cu (dup es i v) ep))):Fc (.ref a) (.int i) v K Y:=anB h ⟨hl,hk⟩
inductive LD(as:List Nat)(Y:So)(M:Nat->Mp)(rest acc:List V)(s:So):Prop
 |mk (gu jQ bs:List Nat):as=gu++jQ->rest=jQ.map V.ref->acc=bs.map V.ref->bs.length=gu.length->(∀(i j:Nat) a,bs[i]?=some a->bs[j]?=some a->i=j)->(∀b∈bs,Y b=none)->(∀(i:Nat) b,bs[i]?=some b->∃es ep,s b=some (.cu es ep)/\Dc es (M i))->Fr [] Y s->LD as Y M rest acc s
inductive LE(d:De)(s2:So)(es:List (Int×V))(rest acc:List V)(s:So):Prop
 |mk (e1 e2:List (Int×V)):es=e1++e2->rest=e2.map (λp=>V.int p.1)->DO s acc (e1.filter λp=>![d.x,d.y].contains p.1)->acc.length<=e1.length->Fr [] s2 s->LE d s2 es rest acc s
def alK{n Q X Y x a M}{N:Int}{d:De}(h:DL Y x M N)(dG:0<=N)(hN:N<=8)(hd:xQ Y a d)(aA:d.ok)(h1:1<=eO d.s d.e)(h2:fA d.s d.e<=N+1)(hq:∀fa Y',Fr [] Y Y'->Y fa=none->DL Y' fa (oE d M) N->Q (.ref fa) Y'):(Wn (n+1)).call 14 [.ref x,.ref a] Q X Y:=by
 obtain⟨as,hx,hm⟩:=h;have uS:=hm.1;obtain⟨t,g1,g2⟩:=hd;have Ho:eO d.s d.e<=fA d.s d.e:=Xk;exact en (fd:=Q7) rfl ?_
 exists hx
 exact AJ (LD as Y M) ?_ ?_ ?_ _ _ _ ⟨[],as,[],rfl,rfl,rfl,rfl,by simp,by simp,by simp,.refl⟩
 ·rintro _ _ s ⟨_,_,_,_,_,_,_,_,_,_,fs⟩;show fs.k hx
 ·rintro v rest acc s ⟨gu,jQ,bs,ea,er,eb,hl,nd,nw,hb,fs⟩ K-hK;cases jQ with
  |nil=>cases er
  |cons a1 jQ=>
   injection er with ev er;subst ev;obtain⟨es,ep,k1,k2⟩:=hm.2 gu.length a1 (by rw[ea];simp);have PZ:=fs.k k1;have kl:=k2.len
   exists PZ
   exact⟨⟨"A>1000,A.3",kl⟩,λgy c hc=>?_⟩;have cb:c∉bs:=λeE=>by
    obtain⟨j,hj,e⟩:=gT eE;obtain⟨es,ep,h1,_⟩:=hb j c (by rw[aS hj,e])
    nomatch hc,h1
   exact hK _ _ ⟨gu++[a1],jQ,bs++[c],by rw[ea];simp,er,by rw[eb];simp,by simp[hl],?_,?_,?_,fs.trans (.new hc)⟩
   ·intro i j z hi hj;have split:∀i:Nat,(bs++[c])[i]?=some z->(bs[i]?=some z)\/(i=bs.length/\z=c):=λi hi=>by
     rcases dq i bs.length with q | q
     ·rewrite [eY q] at hi;show .inl hi
     ·rewrite [fS q] at hi
      have:i-bs.length=0:=by
       rcases ph (i-bs.length) with h | h
       ·show h
       ·nomatch di (by simp;show⟨"1.A,0>A",h⟩),hi
      rewrite [this] at hi
      simp at hi;show .inr ⟨za (y4 this) q,hi.symm⟩
    rcases split i hi with q1 | ⟨q1,q2⟩<;>rcases split j hj with q3 | ⟨q3,q4⟩
    ·show nd i j z q1 q3
    ·rewrite [q4] at q1;show absurd (dp q1) cb
    ·rewrite [q2] at q3;show absurd (dp q3) cb
    ·rw[q1,q3]
   ·intro b bS;rcases aJ.mp bS with bS | bS
    ·show nw b bS
    ·simp at bS;subst bS;cases hs:Y b with
     |none=>rfl
     |some o=>nomatch fs b o hs (by simp),hc
   ·intro i b hi;rcases dq i bs.length with q | q
    ·rewrite [eY q] at hi
     obtain⟨es,ep,h1,h2⟩:=hb i b hi;show⟨es,ep,by rw[ao λe=>by nomatch e,hc,h1];show h1,h2⟩
    ·rewrite [fS q] at hi
     have:i-bs.length=0:=by
      rcases ph (i-bs.length) with h | h
      ·show h
      ·nomatch di (by simp;show⟨"1.A,0>A",h⟩),hi
     rewrite [this] at hi
     simp at hi;subst hi;have ei:i=gu.length:=(za (y4 this) q).trans hl;subst ei;show⟨es,gy,au,k2⟩
 ·rintro acc s ⟨gu,jQ,bs,ea,er,eb,hl,nd,nw,hb,fs⟩;cases jQ with
  |cons _ _=>cases er
  |nil=>
   rewrite [bG] at ea
   subst ea;subst eb;exact⟨by simp;dsimp only[big];show⟨"A>100000,a:8,B~C,A~B,'C=a",hN,uS,hl,aH ⟨"0:a,0:a",dG⟩⟩,λfa v8=>?_⟩;have nf:Y fa=none:=by
    cases hs:Y fa with
    |none=>rfl
    |some o=>nomatch fs fa o hs (by simp),v8
   have f2:Fr [] s (put s fa (.lst (bs.map V.ref))):=.new v8;have fo:Fo Y (put s fa (.lst (bs.map V.ref))) fa bs M N:=by
    exact⟨au,nd,nw,nf,λjJ=>?_,⟨⟨"A~B,C~B,A~C;1,1,1;1,-1,-1",uS,hl⟩,λi b hi=>?_⟩,fs.trans f2⟩
    ·obtain⟨j,hj,e⟩:=gT jJ;obtain⟨es,ep,h1,_⟩:=hb j fa (by rw[aS hj,e])
     nomatch v8,h1
    ·obtain⟨es,ep,h1,h2⟩:=hb i b hi;show⟨es,ep,f2.k h1,h2⟩
   have wM:(if d.e<d.s then d.e else d.s)=eO d.s d.e:=rfl;have wN:(if d.s<d.e then d.e else d.s)=fA d.s d.e:=rfl;generalize put s fa (.lst (bs.map V.ref))=s1 at *;have Ey:=fo.fr.k g1;exact aaa Ey (x:=.int d.s) rfl ?_;exact aaa Ey (x:=.int d.e) rfl ?_;exact aaa Ey (x:=.int d.s) rfl ?_;exact aaa Ey (x:=.int d.e) rfl ?_;show((-big:Int)<=(if d.e<d.s then d.e else d.s)-1/\(if d.e<d.s then d.e else d.s)-1<(big:Int)/\(-big:Int)<=(if d.s<d.e then d.e else d.s)-1/\(if d.s<d.e then d.e else d.s)-1<(big:Int))/\_;rw[wM,wN];exact⟨⟨bO (b:=0) (by decide) ⟨"0:a-1,1:a",h1⟩,by dsimp only[big];show⟨"a-1<'100000,a:b,b:c+1,c:8",Ho,h2,hN⟩,bO (b:=0) (by decide) ⟨"0:a-1,1:b,b:a",h1,Ho⟩,by dsimp only[big];show⟨"a-1<'100000,a:b+1,b:8",h2,hN⟩⟩,?_⟩;have e0:mapM M (eO d.s d.e-1) (eO d.s d.e-1) (lP d)=M:=by
    funext i;dsimp only[mapM];rw[if_neg (λqq=>⟨"_,a-1:'A,'A<a-1;0,1,1",qq.1,qq.2⟩)]
   exact Ov (λi env s=>(env=[(4,.ref x),(8,.ref a),(36,.ref fa)]\/∃u,env=[(4,.ref x),(8,.ref a),(36,.ref fa),(6,u)])/\∃bs,Fo Y s fa bs (mapM M (eO d.s d.e-1) i (lP d)) N) (eO d.s d.e-1) (fA d.s d.e-1) ⟨"a-1:b-1,a:b",Ho⟩ ?_ ?_ _ _ ⟨.inl rfl,bs,by rw[e0];show fo⟩
   ·rintro i env s2 i0 i1 ⟨aE,rB,oF⟩ K hK;obtain⟨iN,rfl⟩:∃iN:Nat,i=iN:=⟨i.toNat,⟨"a='A,'A=a;1,-1;1,1",aH ⟨"0:a,1:b,b-1:a",h1,i0⟩⟩⟩;have P0:iN<N.toNat:=⟨"A>B,a:b+1,'A<a-1,'B=b;1,1,1,-1",h2,i1,aH ⟨"0:a,0:a",dG⟩⟩;obtain⟨b,es,ep,b1,b2,b3⟩:=oF.at_ P0
    rewrite [alT] at b3
    have l3:=b3.len;have bl:=oF.dm.1;have q1:=oF.fr.k g1;have q2:=oF.fr.k g2;have ib:ix (rB.map V.ref) (iN:Int)=some (.ref b):=ve (by rw[mq,b1];rfl);have XT:∀s3 nM,Fo Y s3 fa nM (Dj (mapM M (eO d.s d.e-1) iN (lP d)) iN (lP d (M iN))) N->K [(4,.ref x),(8,.ref a),(36,.ref fa),(6,.int iN)] s3:=λs3 nM f3=>hK _ _ ⟨.inr ⟨_,rfl⟩,nM,by rw[aju i0];show f3⟩;have body:wSs (Wn n) [.iff (.cmp .eq (.idx (.v 8) (.cI 0)) (.cS 29)) [.asg (.idx (.idx (.v 36) (.v 6)) (.idx (.idx (.v 8) (.cI 3)) (.cI 0))) (.idx (.idx (.v 8) (.cI 3)) (.cI 1))] [.iff (.cmp .eq (.idx (.v 8) (.cI 0)) (.cS 30)) [.asg (.idx (.v 36) (.v 6)) (.bi .dict [(.comp (.tup [(.v 39),(.idx (.idx (.v 36) (.v 6)) (.v 39))]) [39] (.idx (.v 36) (.v 6)) [(.cmp .wq (.v 39) (.idx (.v 8) (.cI 3)))])])] [.asg (.idx (.v 36) (.v 6)) (.jG (.idx (.v 8) (.cI 4)) (.bi .dict [(.list [(.idx (.v 8) (.cI 3))])]) .gN)]]] [(4,.ref x),(8,.ref a),(36,.ref fa),(6,.int iN)] K Q bW s2:=by
     have put2:∀(s3:So) (fG:List (Int×V)),Fr [] s2 s3->Dc fG (lP d (M iN))->∀gy c,s3 c=none->K [(4,.ref x),(8,.ref a),(36,.ref fa),(6,.int iN)] (put (put s3 c (.cu fG gy)) fa (.lst ((rB.map V.ref).set iN (.ref c)))):=λs3 fG f3 gw gy c hc=>XT _ _ ((oF.bj f3).repl P0 hc gw);have Dl:∀(s3:So) (fG:List (Int×V)),Fr [] s2 s3->Dc fG (lP d (M iN))->∀gy c,s3 c=none->Fc (.ref fa) (.int (iN:Int)) (.ref c) (λs=>K [(4,.ref x),(8,.ref a),(36,.ref fa),(6,.int iN)] s) (put s3 c (.cu fG gy)):=λs3 fG f3 gw gy c hc=>by
      have l4:put s3 c (.cu fG gy) fa=some (.lst (rB.map V.ref)):=by
       have:=(oF.bj f3).l;rw[ao λe=>by rewrite [<-e,this] at hc;cases hc];show this
      show al8 l4 (by simp;show⟨"A>B,A>C,B~C;1,1,-1",P0,bl⟩) (put2 s3 fG f3 gw gy c hc)
     rcases aA.1 with hw | hw | hw
     ·rewrite [hw] at q1
      exact aaa q1 (x:=.str 29) rfl ?_;exact aaa q1 (x:=.ref t) rfl ?_;exact aaa q2 (x:=.int d.y) rfl ?_;exact iT oF.l ib ?_;exact aaa q1 (x:=.ref t) rfl ?_;exact aaa q2 (x:=.int d.x) rfl ?_;exact amy b2 ⟨"A>1000,A.3",l3⟩ λgy=>?_;exact XT _ rB (oF.mut b1 ?_);have:=b3.dup (x:=d.x) (y:=d.y) aA.2.1.1 aA.2.1.2;dsimp only[lP];rw[if_pos hw];show this
     ·rewrite [hw] at q1
      have hF:lP d (M iN)=λk=>if (![d.x,d.y].contains k)=true then M iN k else none:=by
       dsimp only[lP];rw[if_neg (by rw[hw];decide),if_pos hw]
       funext k
       by_cases e:k∈[d.x,d.y]
       ·rw[if_pos e,if_neg (by rw[gS.mpr e];decide)]
       ·rw[if_neg e,if_pos (by simpa using e)]
      exact aaa q1 (x:=.str 30) rfl ?_;exact aaa q1 (x:=.str 30) rfl ?_;exact iT oF.l ib ?_
      exists b2
      exact⟨⟨"A>1000,A.3",l3⟩,?_⟩;exact AJ (LE d s2 es) ?_ ?_ ?_ _ _ _ ⟨[],es,rfl,rfl,.nil,by simp,.refl⟩
      ·rintro _ _ s ⟨_,_,_,_,_,_,fs⟩;show fs.k b2
      ·rintro v rest acc s ⟨e1,e2,ee,er,ed,el,fs⟩ K2 hn hK2;cases e2 with
       |nil=>cases er
       |cons p e2=>
        injection er with ev er;subst ev;have XU:p∈es:=by rw[ee];simp
        obtain⟨_,j,hj⟩:=b3.2.1 p XU;exact aaa (fs.k q1) (x:=.ref t) rfl ?_;have q2s:=fs.k q2;have main:∀bb,bb=[d.x,d.y].contains p.1->(match !bb with
         |true=>wE (Wn n) (.tup [(.v 39),(.idx (.idx (.v 36) (.v 6)) (.v 39))]) [(4,.ref x),(8,.ref a),(36,.ref fa),(6,.int iN),(39,.int p.1)] (λx s=>K2 (some x) s) bW s
         |false=>K2 none s):=by
         intro bb A8;cases bb with
         |true=>show hn _ ⟨e1++[p],e2,by rw[ee];simp,er,by rw[lZ,oO (by rw[<-A8];decide)];simpa using ed,by simp;show⟨"A.B+1,A.B",el⟩,fs⟩
         |false=>
          exact iT (fs.k oF.l) ib ?_;exact apt (fs.k b2) (x:=.int j) (Ki b3.1 (by rw[<-hj];show XU)) ?_;intro c6 oy;have f6:Fr [] s (put s c6 (.tup [.int p.1,.int j])):=.new oy;exact hK2 _ _ ⟨e1++[p],e2,by rw[ee];simp,er,?_,by simp;show⟨"A.B,A.B",el⟩,fs.trans f6⟩;rw[lZ,oN (by rw[<-A8];rfl)];have:=XR (XS ed λa xs ha=>f6 a _ ha (by simp)) (au (Y:=s) (a:=c6) (o:=.tup [.int p.1,.int j]));show(congrArg (λv=>DO _ _ (_++[(p.1,v)])) hj).mpr this
        exists q2s
        show⟨[d.x,d.y],rfl,main _ rfl⟩
      ·rintro acc s ⟨e1,e2,ee,er,ed,el,fs⟩;cases e2 with
       |cons _ _=>cases er
       |nil=>
        rewrite [bG] at ee
        subst ee;exact⟨by dsimp only[big];show⟨"A>100000,B.3,A.B",l3,el⟩,λc7 jF=>?_⟩;have f7:Fr [] s (put s c7 (.lst acc)):=.new jF;have b4:=b3.filter (f:=λk=>![d.x,d.y].contains k);have l4:=b4.len
        exists au
        exact⟨_,XS ed λa xs ha=>f7 a _ ha (by simp),⟨"A>1000,A.3",l4⟩,?_⟩;rw[XH b4.1];intro gy c hc;exact Dl _ _ (fs.trans f7) ?_ gy c hc;rw[hF];show b4
     ·rewrite [hw] at q1
      have hF:lP d (M iN)=if d.f=true then (λk=>if k=d.x then some d.y else none) else λ_=>none:=by
       dsimp only[lP];rw[if_neg (by rw[hw];decide),if_neg (by rw[hw];decide)]
      exact aaa q1 (x:=.str 31) rfl ?_;exact aaa q1 (x:=.str 31) rfl ?_;exact aaa q1 (x:=.bool d.f) rfl ?_;cases hf:d.f with
      |true=>
       rewrite [hf] at q1
       exact aaa q1 (x:=.ref t) rfl ?_;intro c7 jF;have f7:Fr [] s2 (put s2 c7 (.lst [.ref t])):=.new jF
       exists au
       exact⟨[(d.x,.int d.y)],?_,by simp,?_⟩
       ·show XR (s:=put s2 c7 (.lst [.ref t])) .nil (f7.k q2)
       ·rw[XH (by simp)];intro gy c hc;exact Dl _ _ f7 ?_ gy c hc;rw[hF,hf,if_pos rfl];have:=Dc.nil.dup (x:=d.x) (y:=d.y) aA.2.1.1 aA.2.1.2;show this
      |false=>
       rewrite [hf] at q1
       intro gy c hc;exact Dl _ _ .refl ?_ gy c hc;rw[hF,hf,if_neg (by decide)];show Dc.nil
    rcases aE with rfl | ⟨u,rfl⟩
    ·show body
    ·show body
   ·rintro env s2 ⟨aE,rB,oF⟩;have fin:=hq fa s2 oF.fr oF.nf ⟨rB,oF.l,oF.dm⟩;rcases aE with rfl | ⟨u,rfl⟩
    ·show fin
    ·show fin
set_option tactic.hygienic false
def DL.bj{Y Y' x M N}(h:DL Y x M N)(f:Fr [] Y Y'):DL Y' x M N:=by
 obtain⟨as,h1,h2⟩:=h;show⟨as,f.k h1,h2.fr λa es ep e=>f.k e⟩
def XW{d M}{N:Int}(h2:fA d.s d.e<=N+1):(∀i:Nat,i<N.toNat->oE d M i=M i)↔oE d M=M:=by
 constructor
 ·intro h
  funext i
  by_cases g:i<N.toNat
  ·show h i g
  ·unfold oE mapM;rw[if_neg (λqq=>⟨"_,a:b+1,!A>B,'A<a-1,'B=b;0,1,1,1,-1",h2,g,qq.2,aH ⟨"0:a,b:a+1,'A<b-1",h2,qq.2⟩⟩)]
 ·intro h i _;rw[h]
def apP{n Q X Y x a M}{N:Int}{d:De}{rd:Bool}(h:DL Y x M N)(dG:0<=N)(hN:N<=8)(hd:xQ Y a d)(aA:d.ok)(hq:∀c x' Y',Fr [] Y Y'->Y' c=some (.tup [eX N d rd M,.ref x'])->(x'=x\/Y x'=none)->(eX N d rd M≠.bool true->DL Y' x' M N)->(eX N d rd M=.bool true->DL Y' x' (oE d M) N)->Q (.ref c) Y'):(Wn (n+2)).call 5 [.ref x,.ref a,.int N,.bool rd] Q X Y:=by
 have gw:=hd;obtain⟨t,g1,g2⟩:=hd;have wM:(if d.e<d.s then d.e else d.s)=eO d.s d.e:=rfl;have wN:(if d.s<d.e then d.e else d.s)=fA d.s d.e:=rfl;have plain:∀(s:So) (v:V),Fr [] Y s->eX N d rd M=v->v≠.bool true->∀c,s c=none->Q (.ref c) (put s c (.tup [v,.ref x])):=λs v fs hv hn c hc=>by
  have f2:=fs.trans (Fr.CZ (o:=.tup [v,.ref x]) hc);show hq c x _ f2 (by rw[hv];show au) (.inl rfl) (λ_=>h.bj f2) (λe=>absurd (hv.symm.trans e) hn)
 exact en (fd:=f5) rfl ?_;exact aaa g1 (x:=.int d.s) rfl ?_;exact aaa g1 (x:=.int d.e) rfl ?_;have qE:∀s,Fr [] Y s->eX N d rd M=.str 34->wSs (Wn (n+1)) [.ret (.tup [(.cS 34),(.v 4)])] [(4,.ref x),(8,.ref a),(2,.int N),(11,.bool rd)] (λm s=>wSs (Wn (n+1)) (f5.body.drop 1) m (qN Q) Q X s) Q X s:=λs fs hv=>plain s (.str 34) fs hv (by simp);show(match decide ((if d.e<d.s then d.e else d.s)<1) with
  |true=>wSs (Wn (n+1)) [.ret (.tup [(.cS 34),(.v 4)])] [(4,.ref x),(8,.ref a),(2,.int N),(11,.bool rd)] (λm s=>wSs (Wn (n+1)) (f5.body.drop 1) m (qN Q) Q X s) Q X Y
  |false=>wB (Wn (n+1)) (.cmp .gt (.bi .max [(.idx (.v 8) (.cI 1)),(.idx (.v 8) (.cI 2))]) (.ar .add (.v 2) (.cI 1))) [(4,.ref x),(8,.ref a),(2,.int N),(11,.bool rd)] (wE (Wn (n+1)) (.cmp .gt (.bi .max [(.idx (.v 8) (.cI 1)),(.idx (.v 8) (.cI 2))]) (.ar .add (.v 2) (.cI 1))) [(4,.ref x),(8,.ref a),(2,.int N),(11,.bool rd)]) (λt s=>match t with
   |true=>wSs (Wn (n+1)) [.ret (.tup [(.cS 34),(.v 4)])] [(4,.ref x),(8,.ref a),(2,.int N),(11,.bool rd)] (λm s=>wSs (Wn (n+1)) (f5.body.drop 1) m (qN Q) Q X s) Q X s
   |false=>wSs (Wn (n+1)) (f5.body.drop 1) [(4,.ref x),(8,.ref a),(2,.int N),(11,.bool rd)] (qN Q) Q X s) X Y)
 rw[wM];by_cases e:eO d.s d.e<1
 ·rw[decide_eq_true e];show qE Y .refl (EJ (.inl e))
 ·rw[decide_eq_false e];have e':1<=eO d.s d.e:=⟨"1:a,!a<1",e⟩;exact aaa g1 (x:=.int d.s) rfl ?_;exact aaa g1 (x:=.int d.e) rfl ?_;show(match decide (N+1<(if d.s<d.e then d.e else d.s)) with
   |true=>wSs (Wn (n+1)) [.ret (.tup [(.cS 34),(.v 4)])] [(4,.ref x),(8,.ref a),(2,.int N),(11,.bool rd)] (λm s=>wSs (Wn (n+1)) (f5.body.drop 1) m (qN Q) Q X s) Q X Y
   |false=>wSs (Wn (n+1)) (f5.body.drop 1) [(4,.ref x),(8,.ref a),(2,.int N),(11,.bool rd)] (qN Q) Q X Y)
  rw[wN];by_cases e2:N+1<fA d.s d.e
  ·rw[decide_eq_true e2];show qE Y .refl (EJ (.inr e2))
  ·rw[decide_eq_false e2];have rh:fA d.s d.e<=N+1:=⟨"a:b+1,!b+1<a",e2⟩;have rest:¬ (rd=true/\d.w=31)->wSs (Wn (n+1)) (f5.body.drop 2) [(4,.ref x),(8,.ref a),(2,.int N),(11,.bool rd)] (qN Q) Q X Y:=by
    intro rO;exact alK h dG hN gw aA e' rh λfa s fs nfa v8=>?_;have r1:oE d M=M->wSs (Wn (n+1)) [.ret (.tup [(.cB false),(.v 4)])] [(4,.ref x),(8,.ref a),(2,.int N),(11,.bool rd),(36,.ref fa)] (λm s=>wSs (Wn (n+1)) (f5.body.drop 4) m (qN Q) Q X s) Q X s:=λhM=>plain s (.bool false) fs (PW e' rh rO hM) (by simp);have r2:oE d M≠M->wSs (Wn (n+1)) (f5.body.drop 4) [(4,.ref x),(8,.ref a),(2,.int N),(11,.bool rd),(36,.ref fa)] (qN Q) Q X s:=λhM=>by
     clear rO r1 qE;cases rd with
     |true=>show plain s (.str 35) fs (PX e' rh hM) (by simp)
     |false=>
      intro c hc;have f2:=fs.trans (Fr.CZ (o:=.tup [.bool true,.ref fa]) hc);have hv:=XF (N:=N) e' rh hM;show hq c fa _ f2 (by rw[hv];show au) (.inr nfa) (λq=>absurd hv q) (λ_=>v8.bj (.new hc))
    have r:=aoB (K:=λt=>match t with
     |true=>wSs (Wn (n+1)) [.ret (.tup [(.cB false),(.v 4)])] [(4,.ref x),(8,.ref a),(2,.int N),(11,.bool rd),(36,.ref fa)] (λm s=>wSs (Wn (n+1)) (f5.body.drop 4) m (qN Q) Q X s) Q X s
     |false=>wSs (Wn (n+1)) (f5.body.drop 4) [(4,.ref x),(8,.ref a),(2,.int N),(11,.bool rd),(36,.ref fa)] (qN Q) Q X s) v8 (h.bj fs) (λhM=>r1 ((XW rh).mp hM)) (λhM=>r2 λe=>hM ((XW rh).mpr e))
    show r
   clear hq qE;cases rd with
   |false=>show rest (by simp)
   |true=>
    exact aaa g1 (x:=.str d.w) rfl ?_;rcases aA.1 with hw | hw | hw
    ·rw[hw];show rest (by simp[hw])
    ·rw[hw];show rest (by simp[hw])
    ·rw[hw];show plain Y (.str 35) .refl (PS e' rh hw) (by simp)
def rM(m:Mp):List Da:=[0,1,2].filterMap λk=>(m k).map λv=>.tup [.int k,.int v]
def dat(m:Mp):Da:=.lst (rM m)
def Dm(N:Int)(M:Nat->Mp):Da:=.lst ((dA N.toNat).map λi=>dat (M i))
class inductive PO(s:So):List (Int×V)->List (Int×V)->Prop
 |nil:PO s [] []
 |cons {k v c ps es}:s c=some (.tup [.int k,v])->PO s ps es->PO s ((k,.ref c)::ps) ((k,v)::es)
def PO.fr{s s' ps es}(h:PO s ps es)(f:Fr [] s s'):PO s' ps es:=by
 induction h with
 |nil=>show .nil
 |cons h _ ih=>show .cons (f.k h) ih
def PO.app{s ps es DZ fG}(h:PO s ps es)(h':PO s DZ fG):PO s (ps++DZ) (es++fG):=by
 induction h with
 |nil=>show h'
 |cons h _ ih=>show .cons h ih
def PO.keys{s ps es}(h:PO s ps es):ps.map (·.1)=es.map (·.1):=by
 induction h with
 |nil=>rfl
 |cons _ _ ih=>simp[ih]
def PO.len{s ps es}(h:PO s ps es):ps.length=es.length:=by
 induction h with
 |nil=>rfl
 |cons _ _ ih=>simp[ih]
theorem rd2{c:Nat}{k:Int}(h:s c=some (.tup [.int k,.int j])):Rd s (.ref c) (.tup [.int k,.int j]):=.tup h (.cons (.int _) (.cons (.int _) .nil))
def PO.ins{s c k v}(h:s c=some (.tup [.int k,v])){ps es}(x:PO s ps es):PO s (uF (k,.ref c) ps) (uF (k,v) es):=by
 induction x with
 |nil=>show .cons h .nil
 |@cons j u d ps es h' t ih=>
  show PO s (if j<k then _::uF _ ps else _) (if j<k then _::uF _ es else _);by_cases q:j<k
  ·rw[if_pos q,if_pos q];show .cons h' ih
  ·rw[if_neg q,if_neg q];show .cons h (.cons h' t)
def PO.sort{s ps es}(x:PO s ps es):PO s (lJ ps) (lJ es):=by
 induction x with
 |nil=>show .nil
 |cons h _ ih=>show PO.ins h ih
def apH{k:Int}(h:0<=k/\k<=2):k=0\/k=1\/k=2:=by
 obtain⟨h,h2⟩:=h;have e:=aH h;rw[<-e] at h2 ⊢;show(Mh (Nat.lt_succ_of_le (dP.mp h2))).imp (congrArg r9) (Or.imp (congrArg r9) (congrArg r9))
def gP(p:Int×V):Option Da:=match p.2 with
 | .int j=>some (.tup [.int p.1,.int j])
 |_=>none
def PO.rds{s ps es}(x:PO s ps es):(∀p∈es,∃j,p.2=.int j)->kW s (ps.map (·.2)) (es.filterMap gP):=by
 induction x with
 |nil=>intro _;show .nil
 |cons h t ih=>
  intro hv;obtain⟨j,e⟩:=hv _ (.head _);have e:_=V.int j:=e;subst e;show .cons (rd2 h) (ih λp hp=>hv p (.tail _ hp))
theorem XX{m:Mp}:∀{ks:List Int}{E:List (Int×V)},ks.Pairwise (· < ·)->E.Pairwise (λp q=>p.1<q.1)->(∀p∈E,p.1∈ks)->(∀k∈ks,∀v,(k,v)∈E↔∃j,m k=some j/\v=.int j)->E.filterMap gP=ks.filterMap λk=>(m k).map λv=>.tup [.int k,.int v]
 | [],[],_,_,_,_=>rfl
 | [],p::E,_,_,h,_=>E0 (h p (.head _))
 |b::ks,E,hk,hE,h,hm=>by
  obtain⟨k1,k2⟩:=eZ.mp hk;have up:∀{E':List (Int×V)},E'.Pairwise (λp q=>p.1<q.1)->(∀p∈E',p∈E/\p.1≠b)->(∀k∈ks,∀v,(k,v)∈E->(k,v)∈E')->E'.filterMap gP=ks.filterMap λk=>(m k).map λv=>.tup [.int k,.int v]:=λh1 h2 h3=>
   XX k2 h1 (λp hp=>(az.mp (h p (h2 p hp).1)).resolve_left (h2 p hp).2) λk hk v=>⟨λq=>(hm k (.tail _ hk) v).mp (h2 _ q).1,λq=>h3 k hk v ((hm k (.tail _ hk) v).mpr q)⟩
  have no:(∀v,(b,v)∉E)->m b=none:=λq=>by
   cases e:m b with
   |none=>rfl
   |some j=>show absurd ((hm b (.head _) _).mpr ⟨j,e,rfl⟩) (q _)
  by_cases q:∃v,(b,v)∈E
  ·obtain⟨v,hv⟩:=q;cases E with
   |nil=>cases hv
   |cons p r=>
    obtain⟨e1,e2⟩:=eZ.mp hE;have pb:p=(b,v):=by
     rcases az.mp hv with e | e
     ·show e.symm
     ·have h1:=e1 _ e;rcases az.mp (h p (.head _)) with e | e
      ·show absurd h1 (by rw[e];show iX _)
      ·show absurd (gR (k1 _ e) h1) (iX _)
    subst pb;obtain⟨j,hj,ej⟩:=(hm b (.head _) v).mp (.head _);subst ej;rw[oS,oS,hj];show congrArg (_::·) (up e2 (λp hp=>⟨.tail _ hp,λe=>absurd (e1 p hp) (by rw[e];show iX _)⟩) λk hk v hv=>(az.mp hv).resolve_left λe=>absurd (k1 k hk) (by cases e;show iX _))
  ·rw[oS,no λv hv=>q ⟨v,hv⟩];show up hE (λp hp=>⟨hp,λe=>q ⟨p.2,by rw[<-e];show hp⟩⟩) λ_ _ _ hv=>hv
def XY{ps:List (Int×V)}{m:Mp}(hp:PO s ps es)(hd:Dc es m):kW s ((lJ ps).map (·.2)) (rM m):=by
 have mem:∀{p},p∈lJ es↔p∈es:=(Jg es).mem_iff
 have h:=hp.sort.rds λp hp=>(hd.2.1 p (mem.mp hp)).2
 rwa [XX (m:=m) (ks:=[0,1,2]) (by decide) ?_ (λp hp=>?_) λk _ v=>?_] at h
 ·have nd:((lJ es).map (·.1)).Nodup:=((Jg es).map _).nodup_iff.mpr hd.1;rw[List.Nodup,sC] at nd;show((Ur es).and nd).imp λh=>iW.mpr h
 ·have:=(hd.2.1 p (mem.mp hp)).1;rcases apH this with e | e | e<;>rw[e]<;>simp
 ·rw[mem];have hk:=hd.2.2 k;constructor
  ·intro q;rw[Ki hd.1 q] at hk;cases e:m k with
   |none=>nomatch e,hk
   |some j=>rw[e] at hk;show⟨j,rfl,bR hk⟩
  ·rintro⟨j,e,rfl⟩;rw[e] at hk;show HC hk
def P1{step:V->Env->(Option V->So->Prop)->So->Prop}{Q:List V->So->Prop}(I:Int->List V->So->Prop)(a b:Int)(GY:a<=b)
  (hs:∀i acc s,a<=i->i<b->I i acc s->∀K:Option V->So->Prop,(∀x s',I (i+1) (acc++[x]) s'->K (some x) s')->step (.int i) m K s) (he:∀acc s,I b acc s->Q acc s):∀(acc:List V) (s:So),I a acc s->gather step (λ_=>True) m Q (rE a b) acc s:=by
 have key:∀(n:Nat) (j:Nat) (acc s),j+n=(b-a).toNat->I (a+j) acc s->gather step (λ_=>True) m Q ((List.range' j n).map λ(i:Nat)=>V.int (a+(i:Int))) acc s:=by
  intro n;induction n with
  |zero=>
   intro j acc s hj hi;have:a+(j:Int)=b:=⟨"a+'A=b,A+0~B,'B=b-a;1,1,1;1,-1,-1",hj,aH ⟨"0:a-b,b:a",GY⟩⟩;rw[this] at hi;show⟨trivial,he acc s hi⟩
  |succ n ih=>
   intro j acc s hj hi;exact⟨trivial,hs _ acc s ⟨"a:a+'A"⟩ ⟨"a+'A<b,A+(B+1)~C,'C=b-a",hj,aH ⟨"0:a-b,b:a",GY⟩⟩ hi _ λx s' uJ=>ih (j+1) _ s' ⟨"A+1+B~C,A+(B+1)~C;1,1;1,-1",hj⟩ ?_⟩;have:a+(j:Int)+1=a+((j+1:Nat):Int):=⟨"a+'A+1=a+'(A+1)"⟩;rw[<-this];show uJ
 intro acc s hi;have:=key (b-a).toNat 0 acc s ⟨"0+A~A"⟩ (by simpa using hi);unfold rE;rw[yC];show this
def kW.app{s vs ds fy XZ}(h:kW s vs ds)(h':kW s fy XZ):kW s (vs++fy) (ds++XZ):=by
 induction vs generalizing ds with
 |nil=>cases h;show h'
 |cons v vs ih=>cases h with | cons h1 h2=>show .cons h1 (ih h2)
def Rd.fr(f:Fr [] s s'):∀{v d},Rd s v d->Rd s' v d:=by
 intro v d h;exact Rd.rec (motive_1:=λv d _=>Rd s' v d) (motive_2:=λvs ds _=>kW s' vs ds) ?_ ?_ ?_ ?_ ?_ ?_ ?_ ?_ h
 ·show .none
 ·show λb=>.bool b
 ·show λi=>.int i
 ·show λk=>.str k
 ·show λ{a xs l} h1 _ h2=>.lst (f.k h1) h2
 ·show λ{a xs l} h1 _ h2=>.tup (f.k h1) h2
 ·show .nil
 ·show λ_ _ h1 h2=>.cons h1 h2
def kW.fr(f:Fr [] s s'){vs ds}(h:kW s vs ds):kW s' vs ds:=by
 induction vs generalizing ds with
 |nil=>cases h;show .nil
 |cons v vs ih=>cases h with | cons h1 h2=>show .cons (h1.fr f) (ih h2)
def kW.len{s vs ds}(h:kW s vs ds):vs.length=ds.length:=by
 induction vs generalizing ds with
 |nil=>cases h;rfl
 |cons v vs ih=>cases h with | cons h1 h2=>simp[ih h2]
def eJ.pairs{Y vs l}(h:eJ Y vs l):∃ps,Pairs Y vs ps/\PO Y ps (l.map λe=>(e.1,V.int e.2)):=by
 induction h with
 |nil=>show⟨[],.nil,.nil⟩
 |cons h1 _ ih=>
  obtain⟨ps,p1,p2⟩:=ih;show⟨_,.cons h1 p1,.cons h1 p2⟩
def aoY{l m}(ho:wc l)(hk:∀k,look l k=m k):Dc (l.map λe=>(e.1,V.int e.2)) m:=by
 exact⟨?_,λp hp=>?_,λk=>?_⟩
 ·rw[i5];show ho.1
 ·obtain⟨e,he,rfl⟩:=aQ.mp hp;show⟨ho.2 e he,e.2,rfl⟩
 ·rw[<-hk k];clear hk ho;induction l with
  |nil=>rfl
  |cons e l ih=>
   show(if e.1=k then some (V.int e.2) else fB _ k)=sX V.int (if e.1=k then some e.2 else look l k);by_cases q:e.1=k
   ·rw[if_pos q,if_pos q];rfl
   ·rw[if_neg q,if_neg q];show ih
def acl(n:Nat)(M:Nat->Mp):List Da:=(dA n).map λi=>dat (M i)
def P2{n M}:acl (n+1) M=acl n M++[dat (M n)]:=by unfold acl;rw[List.range_succ,fW];rfl
def shown{n Q X c Y ra rd tk sv nt L M}(h:Bs c Y ra rd tk sv nt L M)(dG:0<=c.N)(hN:c.N<=8)(hq:∀a Y',Fr [] Y Y'->Rd Y' (.ref a) (Dm c.N M)->Q (.ref a) Y'):(Wn (n+5)).call 7 [.ref c.bf] Q X Y:=by
 exact en (fd:=f7) rfl ?_
 exists h.bf
 exact apb h ?_;exact⟨⟨by decide,by decide,bO (by decide) dG,by unfold big;show⟨"a<'100000,a:8",hN⟩⟩,?_⟩;exact P1 (λi acc s=>∃k:Nat,i=k/\kW s acc (acl k M)/\Fr [] Y s) 0 c.N dG ?_ ?_ _ _ ⟨0,rfl,.nil,.refl⟩
 ·rintro i acc s i0 i1 ⟨k,rfl,hr,fs⟩ K hK;have hs:=h.bj fs;exact bh hs.bf ?_;exact akC hs.tree i0 i1 hs.tp λp s1 f1 hp=>?_;rw[yl] at hp;obtain⟨l,⟨vs,h1,h2⟩,h3,h4⟩:=(hp.bj f1).2;obtain⟨ps,p1,p2⟩:=h2.pairs;have dc:=aoY h3 h4;have fin:bi .sorted [.ref p] (λv s=>K (some v) s) s1:=by
   exact vN h1 ?_;exact .inr ⟨ps,p1,by rw[p2.keys];show dc.1,by rw[p2.len];show dc.len,λc6 oy=>?_⟩;have f6:Fr [] s1 (put s1 c6 (.lst ((lJ ps).map (·.2)))):=.new oy;exact hK _ _ ⟨k+1,⟨"'A+1='(A+1)"⟩,?_,(fs.trans f1).trans f6⟩;rw[P2];show(hr.fr (f1.trans f6)).app (.cons (.lst au ((XY p2 dc).fr f6)) .nil)
  show fin
 ·rintro acc s ⟨k,ek,hr,fs⟩;have hl:=hr.len;have:(acl k M).length=k:=by unfold acl;simp
  exact⟨by unfold big;show⟨"A>100000,a:8,a='B,A~C,C~B;1,1,-1,1,1",hN,ek,hl,this⟩,λc7 jF=>?_⟩;have f7:Fr [] s (put s c7 (.lst acc)):=.new jF;exact hq c7 _ (fs.trans f7) (.lst au ?_);have:c.N.toNat=k:=⟨"A~B,a='B,'A=a;1,1,1;1,-1,-1",ek,aH ⟨"0:a,0:a",dG⟩⟩;rw[this];show hr.fr f7
def aih{x:Nat}:lk (up m x v) x=some v:=by
 induction m with
 |nil=>show(match ai x x with | true=>some v | false=>none)=_;rw[my]
 |cons p m ih=>
  obtain⟨k,u⟩:=p;dsimp only[up];cases h:ai k x with
  |true=>show(match ai k x with | true=>some v | false=>lk m x)=_;rw[h]
  |false=>show(match ai k x with | true=>some u | false=>lk (up m x v) x)=_;rw[h];show ih
def aj5{K:List (Int×V)->So->Prop}:∀(es:List (Int×V)) (acc done:List (Int×V)) (s:So),PO s acc done->(∀ps s',Fr [] s s'->PO s' ps (done++es)->K ps s')->Bx K es acc s:=by
 intro zl;induction zl with
 |nil=>
  intro acc done s h hK;show hK acc s .refl (by simpa using h)
 |cons zx r ih=>
  obtain⟨k,v⟩:=zx;intro acc done s h hK;show λc hc=>by
   have f1:Fr [] s (put s c (.tup [.int k,v])):=.new hc;show ih _ (done++[(k,v)]) _ ((h.fr f1).app (.cons au .nil)) λps s' f' hp=>hK ps s' (f1.trans f') (by simpa using hp)
def P4{n Q X Y x y M}{N:Int}(hm:lk m y=some (.ref x))(h:DL Y x M N)(dG:0<=N)(hN:N<=8)(hq:∀a Y',Fr [] Y Y'->Rd Y' (.ref a) (Dm N M)->Q (.ref a) Y'):wE (Wn n) (.comp (.items (.v 18)) [18] (.v y) []) m Q X Y:=by
 obtain⟨as,hx,hd⟩:=h;show(match lk m y with | some (.dz _ _ _)=>False | some v=>vL _ v Y | aP=>False)
 exact DF hm (vN hx ?_);exact AJ (λrest acc s=>∃gu jQ,as=gu++jQ/\rest=jQ.map V.ref/\kW s acc (acl gu.length M)/\Fr [] Y s) ?_ ?_ ?_ _ _ _ ⟨[],as,rfl,rfl,.nil,.refl⟩
 ·rintro _ _ s ⟨_,_,_,_,_,fs⟩;show fs.k hx
 ·rintro v rest acc s ⟨gu,jQ,ea,er,hr,fs⟩ K-hK;cases jQ with
  |nil=>cases er
  |cons a1 jQ=>
   injection er with ev er;subst ev;obtain⟨es,ep,k1,k2⟩:=hd.2 gu.length a1 (by rw[ea];simp);have PZ:=fs.k k1;show match lk (up m 18 (.ref a1)) 18 with
    |some (.dz _ _ _)=>False
    |some v=>(match v with
     | .ref a=>match s a with
      |some (.cu es _)=>rD es/\(es.map (·.1)).Nodup/\es.length<=3/\Bx (λps s=>new (.lst ((lJ ps).map (·.2))) _ s) es [] s
      |_=>False
     |_=>False)
    |aP=>False
   rw[aih];dsimp only;rw[PZ];exact⟨λp hp=>(k2.2.1 p hp).2,k2.1,k2.len,aj5 es [] [] s .nil λps s' f' hp c6 oy=>?_⟩;have f6:Fr [] s' (put s' c6 (.lst ((lJ ps).map (·.2)))):=.new oy;exact hK _ _ ⟨gu++[a1],jQ,by rw[ea];simp,er,?_,(fs.trans f').trans f6⟩;have e1:(gu++[a1]).length=gu.length+1:=by simp
   rw[e1,P2];show(hr.fr (f'.trans f6)).app (.cons (.lst au ((XY (by simpa using hp) k2).fr f6)) .nil)
 ·rintro acc s ⟨gu,jQ,ea,er,hr,fs⟩;cases jQ with
  |cons _ _=>cases er
  |nil=>
   rw[bG] at ea;subst ea;have hl:=hr.len;have e2:(acl as.length M).length=as.length:=by unfold acl;simp
   have e3:=hd.1;exact⟨by unfold big;show⟨"A>100000,a:8,A~B,B~C,C~D,'D=a",hN,hl,e2,e3,aH ⟨"0:a,0:a",dG⟩⟩,λc7 jF=>?_⟩;have f7:Fr [] s (put s c7 (.lst acc)):=.new jF;exact hq c7 _ (fs.trans f7) (.lst au ?_);rw[<-e3];show hr.fr f7
def X1{l:List Da}(h:∀d∈l,Da.eq d d=true):Da.eqs l l=true:=by
 induction l with
 |nil=>rfl
 |cons d l ih=>
  show(Da.eq d d && Da.eqs l l)=true;rw[h d (.head _),ih λe he=>h e (.tail _ he)];rfl
def Kj(N:Int)(M:Nat->Mp):Da.eq (Dm N M) (Dm N M)=true:=by
 exact X1 λd hd=>?_;obtain⟨i,_,rfl⟩:=aQ.mp hd;exact X1 λd hd=>?_;unfold rM at hd;obtain⟨k,_,hk⟩:=lY.mp hd;cases hm:M i k with
 |none=>nomatch hm,hk
 |some v=>
  nomatch hm,hk
  show(decide (k=k) && (decide (v=v) && true))=true;simp
def X2{l:List Da}{n:Nat}(h:∀d∈l,Da.deep d<=n):Da.qM l<=n:=by
 induction l with
 |nil=>show fh _
 |cons d l ih=>
  show max (Da.deep d) (Da.qM l)<=n;show Nat.max_le.mpr ⟨h d (.head _),ih λe he=>h e (.tail _ he)⟩
def Bj(N:Int)(M:Nat->Mp):Da.deep (Dm N M)<20:=by
 have h1:∀m,Da.deep (dat m)<=2:=λm=>by
  have:Da.qM (rM m)<=1:=X2 λd hd=>by
   unfold rM at hd;obtain⟨k,_,hk⟩:=lY.mp hd;cases hm:m k with
   |none=>nomatch hm,hk
   |some v=>nomatch hm,hk;show cy 1
  show Da.qM (rM m)+1<=2;show⟨"A+1.2,A.1",this⟩
 have:Da.qM ((dA N.toNat).map λi=>dat (M i))<=2:=X2 λd hd=>by
  obtain⟨i,_,rfl⟩:=aQ.mp hd;show h1 _
 show Da.qM _+1<20;show⟨"A+1>20,A.2",this⟩
abbrev nG(ce:Nat)(gs ge:Int):O:=.inst 4 [(42,.int 8),(73,.ref ce),(74,.int gs),(75,.int ge)]
def X3{a xs}{Q:V->So->Prop}(h:Y a=some (.lst xs))(hb:0<=i/\i<200/\xs.length * i.toNat<200)(hq:∀c,Y c=none->Q (.ref c) (put Y c (.lst (bH i.toNat xs).flatten))):arith .rep (.ref a) (.int i) Q Y:=by
 show m9 (Y a) λxs=>(0<=i/\i<200/\xs.length * i.toNat<200)/\new (.lst (bH i.toNat xs).flatten) Q Y;rw[h];show⟨hb,hq⟩
def alw{n Q X Y g c1}(hg:Y g=some (.inst 4 []))(hc:Y c1=some (.lst []))(hq:∀Y' ce xs,Y' g=some (nG ce 0 8)->Y' ce=some (.lst xs)->xs.length=8->Y ce=none->Fr [g] Y Y'->Q .none Y'):(Wn (n+1)).call 21 [.ref g,.ref c1,.int 8] Q X Y:=by
 have gc:c1≠g:=λe=>by nomatch e,hg,hc
 exact en (fd:=Rh) rfl ?_;exact sat hg ?_;have h1:∀fs,put Y g (.inst 4 fs) c1=some (.lst []):=λfs=>by rw[ao gc];show hc
 conv=>whnf
 rw[h1];exact⟨by decide,λc2 gI=>?_⟩;intro c3 nE;have X4:c2≠c3:=λe=>by rw[<-e,au] at nE;cases nE
 exact X3 au ⟨by decide,by decide,by simp⟩ λc4 rR=>?_;have c42:c2≠c4:=λe=>by rw[<-e,ao X4,au] at rR;cases rR
 exact GX (xs:=[]) (by rw[ao c42,ao X4];show au) au (by simp) λce EL=>?_;have gg:∀b,b≠g->∀o,Y b=some o->b≠c2/\b≠c3/\b≠c4/\b≠ce:=λb hb o ho=>by
  have a2:b≠c2:=λe=>by rw[<-e,ao hb,ho] at gI;cases gI
  have a3:b≠c3:=λe=>by rw[<-e,ao a2,ao hb,ho] at nE;cases nE
  have a4:b≠c4:=λe=>by rw[<-e,ao a3,ao a2,ao hb,ho] at rR;cases rR
  show⟨a2,a3,a4,λe=>by rw[<-e,ao a4,ao a3,ao a2,ao hb,ho] at EL;cases EL⟩
 have g2:g≠c2:=λe=>by rw[<-e,au] at gI;cases gI
 have g3:g≠c3:=λe=>by rw[<-e,ao g2,au] at nE;cases nE
 have g4:g≠c4:=λe=>by rw[<-e,ao g3,ao g2,au] at rR;cases rR
 have ge:g≠ce:=λe=>by rw[<-e,ao g4,ao g3,ao g2,au] at EL;cases EL
 have gce:Y ce=none:=by
  cases hs:Y ce with
  |none=>rfl
  |some o=>show absurd rfl (gg ce (aj ge) o hs).2.2.2
 exact sat (a:=g) (fs:=[(42,.int 8)]) (by rw[ao ge,ao g4,ao g3,ao g2];show au) ?_ rfl rfl rfl;have k1:=gg c1 gc _ hc;have gM:∀Bg fs,put (put (put (put (put (put Y g (.inst 4 Bg)) c2 (.lst [])) c3 (.lst [.int 0])) c4 (.lst (bH (8:Int).toNat [V.int 0]).flatten)) ce (.lst ([]++(bH (8:Int).toNat [V.int 0]).flatten))) g (.inst 4 fs) c1=some (.lst []):=λBg fs=>by
  rw[ao gc,ao k1.2.2.2,ao k1.2.2.1,ao k1.2.1,ao k1.1,ao gc];show hc
 conv=>whnf
 rw[gM];exact sat au ?_;conv=>whnf
 rw[ao gc,gM];exact sat au ?_;exact hq _ ce (bH 8 [V.int 0]).flatten au ?_ (by simp) gce λb o hb hn=>?_
 ·rw[ao (aj ge),ao (aj ge),ao (aj ge)];show au
 ·have HD:b≠g:=λe=>hn (by rw[e];show .head _);have kb:=gg b HD o hb;rw[ao HD,ao HD,ao HD,ao kb.2.2.2,ao kb.2.2.1,ao kb.2.1,ao kb.1,ao HD];show hb
def ajZ{n Q X Y k}(hk:Y k=some (.inst 5 []))(hq:∀Y' d ep,Y' k=some (.inst 5 [(17,.ref d)])->Y' d=some (.cu [] ep)->Fr [k] Y Y'->Q .none Y'):(Wn (n+1)).call 22 [.ref k] Q X Y:=by
 exact en (fd:=Ri) rfl ?_;intro ep d hd;have kd:k≠d:=λe=>by rw[<-e,hk] at hd;cases hd
 exact sat (by rw[ao kd];show hk) ?_;exact hq _ d ep au (by rw[ao (aj kd)];show au) λb o hb hn=>?_;rw[ao λe=>hn (by rw[e];show .head _),ao λe=>by nomatch e,hd,hb]
 show hb
abbrev kf(tx mk ls:Nat)(pt zv tk ct sv:Int)(un tp:V):O:=.inst 7 [(39,.int 1),(40,.str 25),(41,.ref tx),(43,.ref mk),(44,.int pt),(45,.int 1),(46,.int zv),(47,.none),(48,.bool true),(11,.bool false),(9,.int tk),(49,.int ct),(50,.int sv),(51,.ref ls),(14,un),(27,tp),(52,.none),(53,.none),(54,.none),(55,.none)]
def amr{n Q X Y bf}(hb:Y bf=some (.inst 7 []))(hq:∀Y' tx mk ls ce xs d ep,Y' bf=some (kf tx mk ls 1 1 1 1 1 .none .none)->Y' tx=some (nG ce 0 8)->Y' ce=some (.lst xs)->xs.length=8->Y' mk=some (.inst 5 [(17,.ref d)])->Y' d=some (.cu [] ep)->Y' ls=some (.lst [])->ls≠ce->Y tx=none->Y ce=none->Fr [bf] Y Y'->Q .none Y'):(Wn (n+2)).call 9 [.ref bf,.int 1,.str 25] Q X Y:=by
 exact en (fd:=f9) rfl ?_;exact sat hb ?_;exact sat au ?_;have f0:Fr [bf] Y (put (put Y bf (.inst 7 (up [] 39 (.int 1)))) bf (.inst 7 (up (up [] 39 (.int 1)) 40 (.str 25)))):=(Fr.put (by simp)).trans (.put (by simp));have b0:put (put Y bf (.inst 7 (up [] 39 (.int 1)))) bf (.inst 7 (up (up [] 39 (.int 1)) 40 (.str 25))) bf=some (.inst 7 [(39,.int 1),(40,.str 25)]):=au;show wSs (Wn (n+1)) (f9.body.drop 2) [(22,.ref bf),(39,.int 1),(40,.str 25),(42,.int 8)] (qN Q) Q X (put (put Y bf (.inst 7 (up [] 39 (.int 1)))) bf (.inst 7 (up (up [] 39 (.int 1)) 40 (.str 25))));generalize put (put Y bf (.inst 7 (up [] 39 (.int 1)))) bf (.inst 7 (up (up [] 39 (.int 1)) 40 (.str 25)))=Y1 at *;intro c1 iH;intro g hg;have Dn:bf≠c1:=λe=>by rw[<-e,b0] at iH;cases iH
 have X5:c1≠g:=λe=>by rw[<-e,au] at hg;cases hg
 have HF:bf≠g:=λe=>by rw[<-e,ao Dn,b0] at hg;cases hg
 have f1:Fr [bf] Y (put (put Y1 c1 (.lst [])) g (.inst 4 [])):=f0.trans ((Fr.new iH).trans (.new hg));have b1:put (put Y1 c1 (.lst [])) g (.inst 4 []) bf=some (.inst 7 [(39,.int 1),(40,.str 25)]):=by rw[ao HF,ao Dn];show b0
 have ng:Y g=none:=by
  by_cases e:g=bf
  ·show absurd e.symm HF
  ·cases hs:Y g with
   |none=>rfl
   |some o=>
    have:=((f0.trans (Fr.new (S:=[bf]) (o:=.lst []) iH)) g o hs (by simpa using e))
    nomatch hg,this
 exact alw au (by rw[ao X5];show au) λY2 ce xs t1 t2 t3 t4 f2=>⟨rfl,?_⟩;have X6:Fr [bf] Y Y2:=λb o hb hn=>f2 b o (f1 b o hb hn) (by simp;intro e;nomatch e,ng,hb)
 have b2:Y2 bf=some (.inst 7 [(39,.int 1),(40,.str 25)]):=f2 _ _ b1 (by simpa using HF);have xV:bf≠ce:=λe=>by rw[<-e,b2] at t2;cases t2
 have nce:Y ce=none:=by
  cases hs:Y ce with
  |none=>rfl
  |some o=>
   have:=f1 ce o hs (by simpa using aj xV)
   nomatch t4,this
 clear f1 b1 hg iH f2 X5 Dn t4;exact sat b2 ?_;have f3:Fr [bf] Y (put Y2 bf (.inst 7 [(39,.int 1),(40,.str 25),(41,.ref g)])):=X6.trans (.put (by simp));have b3:put Y2 bf (.inst 7 [(39,.int 1),(40,.str 25),(41,.ref g)]) bf=some (.inst 7 [(39,.int 1),(40,.str 25),(41,.ref g)]):=au;have P5:put Y2 bf (.inst 7 [(39,.int 1),(40,.str 25),(41,.ref g)]) g=some (nG ce 0 8):=by rw[ao (aj HF)];show t1
 have G6:put Y2 bf (.inst 7 [(39,.int 1),(40,.str 25),(41,.ref g)]) ce=some (.lst xs):=by rw[ao (aj xV)];show t2
 show wSs (Wn (n+1)) (f9.body.drop 3) [(22,.ref bf),(39,.int 1),(40,.str 25),(42,.int 8)] (qN Q) Q X (put Y2 bf (.inst 7 [(39,.int 1),(40,.str 25),(41,.ref g)]));generalize put Y2 bf (.inst 7 [(39,.int 1),(40,.str 25),(41,.ref g)])=Y3 at *;clear b2 X6 t1 t2;intro k hk;have P6:bf≠k:=λe=>by rw[<-e,b3] at hk;cases hk
 have gk:g≠k:=λe=>by rw[<-e,P5] at hk;cases hk
 have cek:ce≠k:=λe=>by rw[<-e,G6] at hk;cases hk
 have nk:Y k=none:=by
  cases hs:Y k with
  |none=>rfl
  |some o=>
   have:=f3 k o hs (by simpa using aj P6)
   nomatch hk,this
 exact ajZ au λY4 d ep m1 m2 f4=>⟨rfl,?_⟩;have keep:∀b o,b≠k->Y3 b=some o->Y4 b=some o:=λb o hb h=>f4 b o (by rw[ao hb];show h) (by simpa using hb);have b4:=keep _ _ P6 b3;have t14:=keep _ _ gk P5;have X7:=keep _ _ cek G6;have f04:Fr [bf] Y Y4:=λb o hb hn=>keep b o (λe=>by nomatch e,nk,hb) (f3 b o hb hn)
 have bfd:bf≠d:=λe=>by rw[<-e,b4] at m2;cases m2
 clear f4 keep f3 b3 P5 G6 hk;have key:∀S:So,S bf=some (.inst 7 [(39,.int 1),(40,.str 25),(41,.ref g),(43,.ref k),(44,.int 1),(45,.int 1),(46,.int 1),(47,.none),(48,.bool true),(11,.bool false),(9,.int 1),(49,.int 1),(50,.int 1)])->(∀b,b≠bf->S b=Y4 b)->wSs (Wn (n+1)) (f9.body.drop 13) [(22,.ref bf),(39,.int 1),(40,.str 25),(42,.int 8)] (qN Q) Q X S:=by
  intro S hS ho ls iV;have HG:bf≠ls:=λe=>by rw[<-e,hS] at iV;cases iV
  have X8:∀b o,b≠bf->Y4 b=some o->b≠ls:=λb o hb h e=>by rw[<-e,ho b hb,h] at iV;cases iV
  have hS1:put S ls (.lst []) bf=some (.inst 7 [(39,.int 1),(40,.str 25),(41,.ref g),(43,.ref k),(44,.int 1),(45,.int 1),(46,.int 1),(47,.none),(48,.bool true),(11,.bool false),(9,.int 1),(49,.int 1),(50,.int 1)]):=by rw[ao HG];show hS
  exact sat hS1 ?_;exact sat au ?_;exact sat au ?_;exact sat au ?_;exact sat au ?_;exact sat au ?_;exact sat au ?_;have fin:∀T:So,T bf=some (kf g k ls 1 1 1 1 1 .none .none)->(∀b,b≠bf->T b=put S ls (.lst []) b)->Q .none T:=by
   intro T hT Kk;have tr:∀b o,b≠bf->Y4 b=some o->T b=some o:=λb o hb h=>by
    rw[Kk b hb,ao (X8 b o hb h),ho b hb];show h
   exact hq T g k ls ce xs d ep hT (tr _ _ (aj HF) t14) (tr _ _ (aj xV) X7) t3 (tr _ _ (aj P6) m1) (tr _ _ (aj bfd) m2) (by rw[Kk _ (aj HG)];show au) (aj (X8 _ _ (aj xV) X7)) ng nce λb o hb hn=>?_;have k9:b≠bf:=λe=>hn (by rw[e];show .head _);show tr b o k9 (f04 b o hb hn)
  show fin _ au λb hb=>by rw[ao hb,ao hb,ao hb,ao hb,ao hb,ao hb,ao hb]
 exact sat b4 ?_;exact sat au ?_;exact sat au ?_;exact sat au ?_;exact sat au ?_;exact sat au ?_;exact sat au ?_;exact sat au ?_;exact sat au ?_;exact sat au ?_;show key _ au λb hb=>by rw[ao hb,ao hb,ao hb,ao hb,ao hb,ao hb,ao hb,ao hb,ao hb,ao hb]
def widen{n Q X Y tx ce}{w:Int}(h:Y tx=some (nG ce 0 8))(hw:w<=8)(hq:Q .none Y):(Wn (n+1)).call 94 [.ref tx,.int w] Q X Y:=by
 exact en (fd:=K3) rfl ?_;exact bh h ?_;exact bh h ?_;show wSs (Wn n) (K3.body.drop 1) [(22,.ref tx),(99,.int w),(124,.int (w-(8-0)))] (qN Q) Q X Y;have hl:w-(8-0)<=0:=⟨"a-(8-0):0,a:8",hw⟩;generalize w-(8-0)=l at *;conv=>whnf
 split<;>rename_i e
 ·simp at e;show absurd e (cg.mpr hl)
 ·show hq
def move{n Q X Y tx ce xs}(h:Y tx=some (nG ce 0 8))(hc:Y ce=some (.lst xs))(hx:xs.length=8)(hq:∀Y',Y' tx=some (nG ce 0 8)->Y' ce=some (.lst xs)->Fr [tx,ce] Y Y'->Q .none Y'):(Wn (n+1)).call 91 [.ref tx,.int 0] Q X Y:=by
 have tc:tx≠ce:=λe=>by nomatch e,hc,h
 exact en (fd:=Ss) rfl ?_;exact bh h ?_;exact bh h ?_;exact bh h ?_;exact bh h ?_;exact bh h ?_
 exists hc
 exact⟨by decide,by decide,by rw[hx];unfold big;show⟨"8>100000"⟩,λc gI=>?_⟩;have e0:(xs.take ((8:Int)+0-0).toNat).drop ((8:Int)).toNat=[]:=by
  show(xs.take 8).drop 8=[];show List.drop_eq_nil_of_le (by simp;show⟨"A.8,A.8",fe _ _⟩)
 rw[e0];have cc:ce≠c:=λe=>by rw[<-e,hc] at gI;cases gI
 have tcc:tx≠c:=λe=>by rw[<-e,h] at gI;cases gI
 have h1:put Y c (.lst []) tx=some (nG ce 0 8):=by rw[ao tcc];show h
 have iH:put Y c (.lst []) ce=some (.lst xs):=by rw[ao cc];show hc
 have jK:put Y c (.lst []) c=some (.lst []):=au;have f1:Fr [tx,ce] Y (put Y c (.lst [])):=.new gI;generalize put Y c (.lst [])=s1 at *;exact bh h1 ?_;exact bh h1 ?_;exact bh h1 ?_
 exists jK
 exists iH
 rw[jK];exact⟨cc,by decide,by decide,by simp,by rw[hx];simp,?_⟩;have e1:xs.take (0:Int).toNat++[]++xs.drop ((0:Int)+(([]:List V).length:Int)).toNat=xs:=by simp
 rw[e1];have h2:put s1 ce (.lst xs) tx=some (nG ce 0 8):=by rw[ao tc];show h1
 have nE:put s1 ce (.lst xs) ce=some (.lst xs):=au;have P7:put s1 ce (.lst xs) c=some (.lst []):=by rw[ao (aj cc)];show jK
 have f2:Fr [tx,ce] Y (put s1 ce (.lst xs)):=f1.trans (.put (by simp));generalize put s1 ce (.lst xs)=s2 at *;exact bh h2 ?_
 exists P7
 exact sat h2 ?_;exact sat au ?_;exact hq _ au (by rw[ao (aj tc),ao (aj tc)];show nE) ((f2.trans (.put (by simp))).trans (.put (by simp)))
def amd{n Q X Y tx ce xs cs ys}(h:Y tx=some (nG ce 0 8))(hc:Y ce=some (.lst xs))(hx:xs.length=8)(hy:Y cs=some (.lst ys))(gA:cs≠ce)(wj:ys.length<=8)(hq:∀Y' iw,Y' tx=some (nG ce ys.length 8)->Y' ce=some (.lst iw)->iw.length=8->Fr [tx,ce] Y Y'->Q .none Y'):(Wn (n+2)).call 78 [.ref tx,.int 0,.ref cs] Q X Y:=by
 have tc:tx≠ce:=λe=>by nomatch e,hc,h
 have csx:cs≠tx:=λe=>by nomatch e,h,hy
 exact en (fd:=Sf) rfl ?_
 exists h
 exists hy
 exact widen h ⟨"'A:8,A.8",wj⟩ ?_
 exists h
 exact move h hc hx λs1 h1 iH f1=>?_;have Gu:=f1 _ _ hy (by simp;show⟨csx,gA⟩);exact bh h1 ?_
 exists Gu
 exists iH
 rw[Gu];exact⟨aj gA,by decide,⟨"0:0+'A"⟩,⟨"0+'A:'B,B~8,A.8;1,-1,1",hx,wj⟩,by unfold big;show⟨"A+B>100000,A~8,B.8",hx,wj⟩,?_⟩;have hl:(xs.take (0:Int).toNat++ys++xs.drop ((0:Int)+(ys.length:Int)).toNat).length=8:=by simp;rw[hx];show sH wj
 generalize xs.take (0:Int).toNat++ys++xs.drop ((0:Int)+(ys.length:Int)).toNat=iw at *;have h2:put s1 ce (.lst iw) tx=some (nG ce 0 8):=by rw[ao tc];show h1
 have O0:put s1 ce (.lst iw) cs=some (.lst ys):=by rw[ao gA];show Gu
 exists O0
 exact sat (fs':=[(42,.int 8),(73,.ref ce),(74,.int ys.length),(75,.int 8)]) h2 ?_ rfl rfl (by
  show [(42,V.int 8),(73,.ref ce),(74,.int (0+(ys.length:Int))),(75,.int 8)]=_;rw[Int.zero_add])
 show hq _ iw au (by rw[ao (aj tc)];show au) hl ((f1.trans (.put (by simp))).trans (.put (by simp)))
def al0{n Q X Y bf tx mk ls ct}(h:Y bf=some (kf tx mk ls 1 1 1 ct 1 .none .none))(hq:∀a Y',Fr [] Y Y'->Q (.ref a) Y'):(Wn (n+1)).call 36 [.ref bf,.int 1,.int 1] Q X Y:=by
 exact en (fd:=KQ) rfl ?_;intro a ha;have f1:Fr [] Y (put Y a (.tup [.int (if (1:Int)<1 then 1 else 1),.int (if (1:Int)<1 then 1 else 1)])):=.new ha;have h1:=f1.k h
 exists au
 exact⟨rfl,?_⟩;exact bh h1 ?_;exact bh h1 ?_;intro b hb;show hq b _ (f1.trans (.new hb))
def X9{n N' R X Y bf ls}{fs:List (Nat×V)}(hm:lk m 3=some (.ref bf))(h:Y bf=some (.inst 7 fs))(hl:lk fs 51=some (.ref ls))(iV:Y ls=some (.lst []))(hq:∀Y',Fr [] Y Y'->N' m Y'):wS (Wn n) (.cD [90] (.bi .lst [(.attr (.v 3) 51)]) [.stop]) m N' R X Y:=by
 show(match lk m 3 with | some (.dz _ _ _)=>False | some v=>vK (Wn n).fw v 51 (λx=>bi .lst [x] (λv s=>vL _ v s) Y) Y | aP=>False)
 show DF hm (bh h (NK iV (by decide) λc hc=>vN au ⟨au,hq _ (.new hc)⟩) rfl hl)
def c35{n Q X Y bf tx mk ls ct}(h:Y bf=some (kf tx mk ls 1 1 1 ct 1 .none .none))(hq:Q .none Y):(Wn (n+1)).call 35 [.ref bf] Q X Y:=by
 exact en (fd:=KN) rfl ?_;exact bh h ?_;show hq
def c37{n Q X Y bf ls}{fs:List (Nat×V)}(h:Y bf=some (.inst 7 fs))(hl:lk fs 51=some (.ref ls))(iV:Y ls=some (.lst []))(hq:∀Y',Fr [] Y Y'->Q .none Y'):(Wn (n+1)).call 37 [.ref bf,.int i,.int j] Q X Y:=by
 exact en (fd:=Rt) rfl ?_;show X9 (by rfl) h hl iV hq
def c38{n Q X Y bf tx mk ls ce xs cs ys}(hb:Y bf=some (kf tx mk ls 1 1 1 1 1 .none .none))(ht:Y tx=some (nG ce 0 8))(hc:Y ce=some (.lst xs))(hx:xs.length=8)(gA:Y cs=some (.lst ys))(jK:cs≠ce)(wj:ys.length<=8)
  (hq:∀Y' iw,Y' bf=some (kf tx mk ls 1 (1+ys.length) 1 1 1 .none .none)->Y' tx=some (nG ce ys.length 8)->Y' ce=some (.lst iw)->iw.length=8->Fr [bf,tx,ce] Y Y'->Q .none Y'):(Wn (n+3)).call 38 [.ref bf,.int 1,.ref cs] Q X Y:=by
 have e1:bf≠tx:=λe=>by nomatch e,ht,hb
 have e2:bf≠ce:=λe=>by nomatch e,hc,hb
 have e6:bf≠cs:=λe=>by nomatch e,gA,hb
 have EP:cs≠tx:=λe=>by nomatch e,ht,gA
 exact en (fd:=Ru) rfl ?_;exact bh hb ?_;exact bh hb ?_
 exists ht
 exact amd ht hc hx gA jK wj λs3 iw CK nE Bk f3=>?_;have jN:=f3 _ _ hb (by simp;show⟨e1,e2⟩);have xX:=f3 _ _ gA (by simp;show⟨EP,jK⟩);exact bh jN ?_
 exists xX
 exact sat jN ?_;exact bh au ?_;show hq _ iw au (by rw[ao (aj e1)];show CK) (by rw[ao (aj e2)];show nE) Bk ((f3.mono (λb h=>.tail _ h)).trans (.put (by simp)))
def c93{n Q X Y mk d ep}(hk:Y mk=some (.inst 5 [(17,.ref d)]))(hd:Y d=some (.cu [] ep))(hq:∀c,Y c=none->Q (.ref c) (put Y c (.lst []))):(Wn (n+1)).call 93 [.ref mk] Q X Y:=by
 exact en (fd:=Sv) rfl ?_;exact bh hk ?_
 exists hd
 show hq
def c79{n Q X Y mk d ep}(hk:Y mk=some (.inst 5 [(17,.ref d)]))(hd:Y d=some (.cu [] ep))(hq:∀Y',Fr [] Y Y'->Q .none Y'):(Wn (n+2)).call 79 [.ref mk,.int i,.int j,.bool false] Q X Y:=by
 exact en (fd:=DG) rfl ?_
 exists hk
 exact c93 hk hd λc hc=>?_
 exists au
 show⟨au,hq _ (.new hc)⟩
def c39{n Q X Y bf tx mk ls pt zv}(h:Y bf=some (kf tx mk ls pt zv 1 1 1 .none .none))(hq:Q .none Y):(Wn (n+1)).call 39 [.ref bf,.int i,.int j,.bool false] Q X Y:=by
 exact en (fd:=Rv) rfl ?_;exact bh h ?_;exact bh h ?_;show hq
def c89{n Q X Y bf tx mk ls pt zv}(h:Y bf=some (kf tx mk ls pt zv 1 1 1 .none .none))(hq:∀Y',Y' bf=some (kf tx mk ls pt zv 2 2 1 .none .none)->(∀b,b≠bf->Y' b=Y b)->Q .none Y'):(Wn (n+1)).call 89 [.ref bf,.bool true] Q X Y:=by
 exact en (fd:=Ah) rfl ?_;exact bh h ?_;exact sat h ?_;exact bh au ?_;exact sat au ?_;show hq _ au λb hb=>by rw[ao hb,ao hb]
def c40{n Q X Y bf tx mk ls pt zv}{k:Int}(h:Y bf=some (kf tx mk ls pt zv 1 1 1 .none .none))(iV:Y ls=some (.lst []))(hq:∀Y',Y' bf=some (kf tx mk ls pt zv 2 2 1 .none .none)->Fr [bf] Y Y'->Q .none Y'):(Wn (n+2)).call 40 [.ref bf,.int i,.int j,.int k] Q X Y:=by
 have e5:ls≠bf:=λe=>by nomatch e,h,iV
 exact en (fd:=Rw) rfl ?_
 exists h
 exact c89 h λs1 h1 o1=>?_;exact X9 (by rfl) h1 (by rfl) ((o1 _ e5).trans iV) λs2 f2=>?_;exact hq s2 (f2.k h1) λb o hb hn=>f2 b o ((o1 b λe=>hn (by rw[e];show .head _)).trans hb) (by simp)
def alz{n Q X Y bf tx mk ls ce xs d ep cs ys}(hb:Y bf=some (kf tx mk ls 1 1 1 1 1 .none .none))(ht:Y tx=some (nG ce 0 8))(hc:Y ce=some (.lst xs))(hx:xs.length=8)(hk:Y mk=some (.inst 5 [(17,.ref d)]))(hd:Y d=some (.cu [] ep))(iV:Y ls=some (.lst []))(Kl:ls≠ce)(gA:Y cs=some (.lst ys))(jK:cs≠ce)(iR:cs≠ls)(wj:ys.length<=8)
  (hq:∀Y' pt tk ct ge iw,Y' bf=some (kf tx mk ls pt (1+ys.length) tk ct 1 .none .none)->Y' tx=some (nG ce ys.length ge)->Y' ce=some (.lst iw)->(iw.length:Int)-ge+ys.length=ys.length->Y' ls=some (.lst [])->Fr [bf,tx,ce] Y Y'->Q .none Y'):(Wn (n+4)).call 23 [.ref bf,.int 1,.ref cs,.bool false,.bool true] Q X Y:=by
 have e1:bf≠tx:=λe=>by nomatch e,ht,hb
 have e2:bf≠ce:=λe=>by nomatch e,hc,hb
 have e3:bf≠mk:=λe=>by nomatch e,hk,hb
 have e4:bf≠d:=λe=>by nomatch e,hd,hb
 have e5:bf≠ls:=λe=>by nomatch e,iV,hb
 have e6:bf≠cs:=λe=>by nomatch e,gA,hb
 have e7:mk≠tx:=λe=>by nomatch e,ht,hk
 have e8:mk≠ce:=λe=>by nomatch e,hc,hk
 have e9:d≠tx:=λe=>by nomatch e,ht,hd
 have Yb:d≠ce:=λe=>by nomatch e,hc,hd
 have P8:ls≠tx:=λe=>by nomatch e,ht,iV
 have EP:cs≠tx:=λe=>by nomatch e,ht,gA
 exact en (fd:=Bz) rfl ?_;exact c35 hb ?_;exact al0 hb λa s1 f1=>?_;have Kc:=f1.k hb;have P9:=f1.k gA
 exists P9
 by_cases hn:ys=[]
 ·subst hn;have:=hq s1 1 1 1 8 xs Kc (f1.k ht) (f1.k hc) (by rw[hx];simp) (f1.k iV) (f1.mono (by simp));show this
 ·have bK:0<ys.length:=oU.mpr hn;conv=>whnf
  split<;>rename_i g
  ·simp at g;show absurd g hn
  ·exact c37 Kc (by rfl) (f1.k iV) λs2 f2=>?_;have Ag:=f1.trans f2;exact c38 (Ag.k hb) (Ag.k ht) (Ag.k hc) hx (Ag.k gA) jK wj λs3 iw jN CK nE Bk f3=>?_;have k3:∀b o,b≠bf->b≠tx->b≠ce->Y b=some o->s3 b=some o:=λb o h0 h1 h2 h=>f3 _ _ (Ag.k h) (by simp;show⟨h0,h1,h2⟩);have xX:=k3 _ _ (aj e6) EP jK gA
   exists xX
   exact sat jN ?_;have key2:∀T:So,T bf=some (kf tx mk ls (1+ys.length) (1+ys.length) 1 1 1 .none .none)->(∀b,b≠bf->T b=s3 b)->wSs (Wn (n+3)) (Bz.body.drop 6) [(3,.ref bf),(76,.int 1),(56,.ref cs),(57,.bool false),(77,.bool true)] (qN Q) Q X T:=by
    intro T hT Kk;have kT:∀b o,b≠bf->s3 b=some o->T b=some o:=λb o bS h=>by rw[Kk b bS];show h
    have Yc:=kT _ _ (aj e3) (k3 _ _ (aj e3) e7 e8 hk);have Gp:=kT _ _ (aj e4) (k3 _ _ (aj e4) e9 Yb hd);have Qa:=kT _ _ (aj e6) xX;have hlT:=kT _ _ (aj e5) (k3 _ _ (aj e5) P8 Kl iV);exact bh hT ?_
    exists Yc
    exists Qa
    exact c79 Yc Gp λs6 f6=>?_
    exists (f6.k Qa)
    exact c39 (f6.k hT) ?_
    exists (f6.k Qa)
    exact c40 (f6.k hT) (f6.k hlT) λs7 wh f7=>?_;have k7:∀b o,b≠bf->s3 b=some o->s7 b=some o:=λb o bS h=>f7 _ _ (f6.k (kT b o bS h)) (by simpa using bS);exact hq s7 _ 2 2 8 iw wh (k7 _ _ (aj e1) CK) (k7 _ _ (aj e2) nE) (by rw[Bk];show⟨"'8-8+'A='A"⟩) (k7 _ _ (aj e5) (k3 _ _ (aj e5) P8 Kl iV)) λb o bS lL=>?_;have aU:b≠bf/\b≠tx/\b≠ce:=by simpa using lL
    show k7 b o aU.1 (k3 b o aU.1 aU.2.1 aU.2.2 bS)
   show key2 _ au λb bS=>ao bS
def amn{n Q X Y bf tx mk ls ce xs d ep cs ys}(hb:Y bf=some (kf tx mk ls 1 1 1 1 1 .none .none))(ht:Y tx=some (nG ce 0 8))(hc:Y ce=some (.lst xs))(hx:xs.length=8)(hk:Y mk=some (.inst 5 [(17,.ref d)]))(hd:Y d=some (.cu [] ep))(iV:Y ls=some (.lst []))(Kl:ls≠ce)(gA:Y cs=some (.lst ys))(jK:cs≠ce)(iR:cs≠ls)(wj:ys.length<=8)
  (hq:∀Y' pt tk ct ge iw,Y' bf=some (kf tx mk ls pt (1+ys.length) tk ct 1 .none .none)->Y' tx=some (nG ce ys.length ge)->Y' ce=some (.lst iw)->(iw.length:Int)-ge+ys.length=ys.length->Y' ls=some (.lst [])->Fr [bf,tx,ce] Y Y'->Q .none Y'):(Wn (n+5)).call 10 [.ref bf,.ref cs] Q X Y:=by
 have e1:bf≠tx:=λe=>by nomatch e,ht,hb
 have e2:bf≠ce:=λe=>by nomatch e,hc,hb
 have e3:bf≠mk:=λe=>by nomatch e,hk,hb
 have e4:bf≠d:=λe=>by nomatch e,hd,hb
 have e5:bf≠ls:=λe=>by nomatch e,iV,hb
 have e6:bf≠cs:=λe=>by nomatch e,gA,hb
 have e7:mk≠tx:=λe=>by nomatch e,ht,hk
 have e8:mk≠ce:=λe=>by nomatch e,hc,hk
 have e9:d≠tx:=λe=>by nomatch e,ht,hd
 have Yb:d≠ce:=λe=>by nomatch e,hc,hd
 have P8:ls≠tx:=λe=>by nomatch e,ht,iV
 have EP:cs≠tx:=λe=>by nomatch e,ht,gA
 have Qb:tx≠ce:=λe=>by nomatch e,hc,ht
 exact en (fd:=rF) rfl ?_;exact bh hb ?_;exact alz hb ht hc hx hk hd iV Kl gA jK iR wj hq
def xY(x p:Nat)(N:Int):List Nd:=if 0<N then [(x,N,p)] else []
def ajO{n Q X Y tr p}{N:Int}(ht:Y tr=some (.inst 2 []))(hN:0<=N)(hq:∀Y' x,Tree Y' tr (xY x p N)->Fr [tr] Y Y'->Q .none Y'):(Wn (n+2)).call 24 [.ref tr,.int N,.ref p] Q X Y:=by
 exact en (fd:=Rj) rfl ?_;by_cases g:0<N
 ·have main:∀x,Y x=none->(Wn (n+1)).call 41 [.ref x,.int N,.ref p] (λv s'=>v=.none/\qP (Wn (n+1)).fw (.ref tr) 79 (.ref x) (λs=>Q .none s) s') bW (put Y x (.inst 1 [])):=λx hx=>by
   have Qc:tr≠x:=λe=>by rw[<-e,ht] at hx;cases hx
   exact WN au λs1 h1 o1=>⟨rfl,?_⟩;have qY:s1 tr=some (.inst 2 []):=by rw[o1 tr Qc,ao Qc];show ht
   exact sat qY ?_;exact hq _ x ?_ λb o hb hn=>?_
   ·have e:xY x p N=[(x,N,p)]:=if_pos g;rw[e];have z:Z (put s1 tr (.inst 2 [(79,.ref x)])) tr (.nd x .nil .nil N p) []:=⟨⟨by rw[ao (aj Qc)];show h1,trivial,trivial⟩,trivial,by simp[T.aO,T.aN,ik,il,ip],au⟩;exact⟨_,z,?_,λe he=>by simp at he;subst he;show g⟩;show([]:List Nd)++(x,N-0-0,p)::[]=_;simp
   ·have Qd:b≠tr:=λe=>hn (by rw[e];show .head _);have uU:b≠x:=λe=>by nomatch e,hx,hb
    rw[ao Qd,o1 b uU,ao uU];show hb
  show(match decide (0<N) with
   |true=>∀x,Y x=none->(Wn (n+1)).call 41 [.ref x,.int N,.ref p] (λv s'=>v=.none/\qP (Wn (n+1)).fw (.ref tr) 79 (.ref x) (λs=>Q .none s) s') bW (put Y x (.inst 1 []))
   |false=>qP (Wn (n+1)).fw (.ref tr) 79 .none (λs=>Q .none s) Y)
  rw[decide_eq_true g];show main
 ·show(match decide (0<N) with
   |true=>∀x,Y x=none->(Wn (n+1)).call 41 [.ref x,.int N,.ref p] (λv s'=>v=.none/\qP (Wn (n+1)).fw (.ref tr) 79 (.ref x) (λs=>Q .none s) s') bW (put Y x (.inst 1 []))
   |false=>qP (Wn (n+1)).fw (.ref tr) 79 .none (λs=>Q .none s) Y)
  rw[decide_eq_false g];exact sat ht ?_;exact hq _ 0 ?_ (.put (by simp));have e:xY 0 p N=[]:=if_neg g;rw[e];show⟨.nil,⟨trivial,trivial,by simp[T.aO,T.aN,ik,il,ip],au⟩,rfl,by simp⟩
def amQ{n Q X Y tp}{N:Int}(ht:Y tp=some (.inst 3 []))(hN:0<=N)(hq:∀Y' tr x p,Y' tp=some (rP tr)->Tree Y' tr (xY x p N)->Y' p=some (.lst [])->Fr [tp] Y Y'->Q .none Y'):(Wn (n+3)).call 11 [.ref tp,.int N] Q X Y:=by
 exact en (fd:=vO) rfl ?_;intro p hp;intro tr u6;have f1:Fr [tp] Y (put (put Y p (.lst [])) tr (.inst 2 [])):=(Fr.new hp).trans (.new u6);have e1:tp≠p:=λe=>by rw[<-e,ht] at hp;cases hp
 have e2:p≠tr:=λe=>by rw[<-e,au] at u6;cases u6
 have e3:tp≠tr:=λe=>by rw[<-e,ao e1,ht] at u6;cases u6
 have Oo:Y tr=none:=by
  cases hs:Y tr with
  |none=>rfl
  |some o=>
   by_cases q:tr=p
   ·show absurd q.symm e2
   ·nomatch ao q,hs,u6
 exact ajO au hN λs1 x t1 f2=>⟨rfl,?_⟩;have k:∀b o,b≠tr->put Y p (.lst []) b=some o->s1 b=some o:=λb o hb h=>f2 b o (by rw[ao hb];show h) (by simpa using hb);have qY:=k _ _ e3 (by rw[ao e1];show ht);have hp1:=k _ _ e2 (au (o:=.lst []));have nds:∀b∈jx (xY x p N),b≠tp:=λb hb e=>by
  obtain⟨A,B,m,q,e'⟩:=xi hb;rw[e'] at t1;obtain⟨_,_,_,_,h⟩:=t1.node
  nomatch e,qY,h
 exact sat qY ?_;exact hq _ tr x p au (t1.fr (λb hb=>ao (nds b hb)) (ao (aj e3))) (by rw[ao (aj e1)];show hp1) λb o hb hn=>?_;have Qd:b≠tp:=λe=>hn (by rw[e];show .head _);have hbr:b≠tr:=λe=>by nomatch e,Oo,hb
 have hbp:b≠p:=λe=>by nomatch e,hp,hb
 rw[ao Qd];show k b o hbr (by rw[ao hbp];show hb)
def anE{n Q X Y ul}(hu:Y ul=some (.inst 8 []))(hq:∀Y' ra,Y' ul=some (wd ra none)->Y' ra=some (.lst [])->Y ra=none->Fr [ul] Y Y'->Q .none Y'):(Wn (n+1)).call 25 [.ref ul] Q X Y:=by
 exact en (fd:=Rk) rfl ?_;intro ra jC;have e1:ul≠ra:=λe=>by rw[<-e,hu] at jC;cases jC
 exact sat (by rw[ao e1];show hu) ?_;exact sat au ?_;exact sat au ?_;exact sat au ?_;exact sat au ?_;exact hq _ ra au (by rw[ao (aj e1),ao (aj e1),ao (aj e1),ao (aj e1),ao (aj e1)];show au) jC λb o hb hn=>?_;have Dp:b≠ul:=λe=>hn (by rw[e];show .head _);rw[ao Dp,ao Dp,ao Dp,ao Dp,ao Dp,ao λe=>by nomatch e,jC,hb];show hb
def am2{n Q X Y un}(hu:Y un=some (.inst 10 []))(hq:∀Y' ul ra,Y' un=some (.inst 10 [(15,.ref ul)])->Y' ul=some (wd ra none)->Y' ra=some (.lst [])->Y ra=none->Fr [un] Y Y'->Q .none Y'):(Wn (n+2)).call 12 [.ref un] Q X Y:=by
 exact en (fd:=Ag) rfl ?_;intro ul Kh;have e1:un≠ul:=λe=>by rw[<-e,hu] at Kh;cases Kh
 exact anE au λs1 ra u1 r1 n1 f1=>⟨rfl,?_⟩;have k:∀b o,b≠ul->Y b=some o->s1 b=some o:=λb o hb h=>f1 b o (by rw[ao hb];show h) (by simpa using hb);have Qe:=k _ _ e1 hu;have e2:ra≠un:=λe=>by nomatch e,Qe,r1
 have nra:Y ra=none:=by
  cases hs:Y ra with
  |none=>rfl
  |some o=>
   by_cases q:ra=ul
   ·nomatch q,u1,r1
   ·nomatch ao q,hs,n1
 exact sat Qe ?_;exact hq _ ul ra au (by rw[ao (aj e1)];show u1) (by rw[ao e2];show r1) nra λb o hb hn=>?_;have Dp:b≠un:=λe=>hn (by rw[e];show .head _);rw[ao Dp];show k b o (λe=>by nomatch e,Kh,hb) hb
def M0:Nat->Mp:=λ_ _=>none
def ame{n Q X Y bf tx mk ls pt zv tk ct}(h:Y bf=some (kf tx mk ls pt zv tk ct 1 .none .none))(hq:∀Y',Y' bf=some (kf tx mk ls pt zv tk ct tk .none .none)->(∀b,b≠bf->Y' b=Y b)->Q .none Y'):(Wn (n+1)).call 85 [.ref bf,.bool false] Q X Y:=by
 exact en (fd:=K0) rfl ?_;exact bh h ?_;exact sat h ?_;show hq _ au λb hb=>ao hb
def ahD{n Q X Y}{N:Int}(dG:0<=N)(hN:N<=8)(Qf:Y 884=some (.tup [.str 16]))(hq:∀Y' c ra tk,c.N=N->Bs c Y' ra false tk tk none [] M0->Fr [] Y Y'->(∀b o,Y b=some o->b≠c.ce/\b≠ra)->Q (.ref c.bf) Y'):(Wn (n+6)).call 3 [.int N] Q X Y:=by
 exact en (fd:=f3) rfl ?_;intro bf k9;exact amr au λs1 tx mk ls ce xs d ep b1 b2 b3 b4 b5 b6 b7 b8 nx nc f1=>⟨rfl,?_⟩;have k1:Fr [] Y s1:=λb o hb _=>f1 b o (by rw[ao λe=>by nomatch e,k9,hb];show hb) (by simp;intro e;nomatch e,k9,hb)
 exact⟨⟨by decide,by decide,bO (by decide) dG,by dsimp only[big];show⟨"a<'100000,a:8",hN⟩⟩,?_⟩;exact P1 (λi acc s=>(acc.length:Int)=i/\s=s1) 0 N dG ?_ ?_ _ _ ⟨rfl,rfl⟩
 ·rintro i acc s i0 i1 ⟨hl,rfl⟩ K hK;show hK _ _ ⟨by simp;show⟨"'A=a,'A=a;1,1;1,-1",hl⟩,rfl⟩
 ·rintro acc s ⟨hl,rfl⟩;exact⟨by dsimp only[big];show⟨"A>100000,a:8,'A=a",hN,hl⟩,λcs gA=>?_⟩;have f2:Fr [] s (put s cs (.lst acc)):=.new gA;have ne:∀b o,s b=some o->cs≠b:=λb o hb e=>by nomatch e,hb,gA
  exact amn (f2 _ _ b1 (by simp)) (f2 _ _ b2 (by simp)) (f2 _ _ b3 (by simp)) b4 (f2 _ _ b5 (by simp)) (f2 _ _ b6 (by simp)) (f2 _ _ b7 (by simp)) b8 au (ne _ _ b3) (ne _ _ b7) ⟨"A.8,a:8,'A=a",hN,hl⟩ λs3 pt tk ct ge iw c1 c2 c3 c4 c5 f3=>?_;rw[hl] at c1 c2 c4;have nb:∀b o,Y b=some o->b≠bf/\b≠tx/\b≠ce:=λb o hb=>by
   have q1:b≠bf:=λe=>by nomatch e,k9,hb
   exact⟨q1,λe=>?_,λe=>?_⟩
   ·have:put Y bf (.inst 7 []) b=some o:=by rw[ao q1];show hb
    nomatch e,nx,this
   ·have:put Y bf (.inst 7 []) b=some o:=by rw[ao q1];show hb
    nomatch e,nc,this
  have k3:Fr [] Y s3:=λb o hb _=>f3 b o (f2 _ _ (k1 _ _ hb (by simp)) (by simp)) (by simp;show nb b o hb)
  exists c1
  exact ame c1 λs4 e1 o4=>?_;have nbf:Y bf=none:=k9;have k4:Fr [] Y s4:=λb o hb _=>by rw[o4 b (nb b o hb).1];show k3 b o hb (by simp)
  have xb:bf≠tx:=λe=>by nomatch e,c2,c1
  have cb:bf≠ce:=λe=>by nomatch e,c3,c1
  have lb:bf≠ls:=λe=>by nomatch e,c5,c1
  have e2:=(o4 _ (aj xb)).trans c2;have e3:=(o4 _ (aj cb)).trans c3;have e5:=(o4 _ (aj lb)).trans c5;clear o4 c1 c2 c3 c5 f3 f2 k3;intro tp jA;have Yd:∀b o,s4 b=some o->b≠tp:=λb o hb e=>by nomatch e,jA,hb
  exact amQ au dG λs5 tr x p g1 g2 g3 f5=>⟨rfl,?_⟩;have k5:∀b o,s4 b=some o->s5 b=some o:=λb o hb=>f5 b o (by rw[ao (Yd b o hb)];show hb) (by simpa using Yd b o hb);intro un hun;have Qg:∀b o,s5 b=some o->b≠un:=λb o hb e=>by nomatch e,hun,hb
  exact am2 au λs6 ul ra u1 u2 u3 u4 f6=>⟨rfl,?_⟩;have k6:∀b o,s5 b=some o->s6 b=some o:=λb o hb=>f6 b o (by rw[ao (Qg b o hb)];show hb) (by simpa using Qg b o hb);have Dq:∀b o,s4 b=some o->s6 b=some o:=λb o hb=>k6 b o (k5 b o hb);have ran:∀b o,s5 b=some o->b≠ra:=λb o hb e=>by
   have:put s5 un (.inst 10 []) b=some o:=by rw[ao (Qg b o hb)];show hb
   nomatch e,u4,this
  have t6:Tree s6 tr (xY x p N):=g2.bj λb o hb _=>k6 b o hb;intro w hw;have f7:Fr [] s6 (put s6 w (.tup [.ref tp,.ref un])):=.new hw
  exists au
  exact⟨rfl,?_⟩;have b7':=f7 _ _ (Dq _ _ e1) (by simp);exact sat b7' ?_;exact sat au ?_;have fin:∀S:So,S bf=some (kf tx mk ls pt (1+N) tk ct tk (.ref un) (.ref tp))->(∀b,b≠bf->S b=put s6 w (.tup [.ref tp,.ref un]) b)->Q (.ref bf) S:=by
   intro S hS hSo;have kS:∀b o,b≠bf->s6 b=some o->S b=some o:=λb o hb h=>by rw[hSo b hb];show f7 b o h (by simp)
   have nbn:∀b o,s6 b=some o->o≠kf tx mk ls pt (1+N) tk ct tk .none .none->b≠bf:=λb o h hn e=>by
    nomatch e,Dq _ _ e1,h;show hn rfl
   have kk:∀b o,s6 b=some o->o≠kf tx mk ls pt (1+N) tk ct tk .none .none->S b=some o:=λb o h hn=>kS b o (nbn b o h hn) h;have hN1:(1+N:Int)=N+1:=Int.add_comm _ _;rw[hN1] at hS;exact hq S ⟨bf,tx,mk,ls,un,ul,tp,tr,ce,pt,ct,N,8,N,ge⟩ ra tk rfl ⟨hS,kk _ _ u1 (by simp),kk _ _ u2 (by simp),⟨[],kk _ _ u3 (by simp),.nil⟩,⟨kk _ _ (Dq _ _ e5) (by simp),ran _ _ (k5 _ _ e5)⟩,kk _ _ (Dq _ _ e2) (by simp),⟨iw,kk _ _ (Dq _ _ e3) (by simp),c4,ran _ _ (k5 _ _ e3)⟩,kk _ _ (k6 _ _ g1) (by simp),?_,kk _ _ (Dq _ _ (k4 _ _ Qf (by simp))) (by simp)⟩ (λb o hb _=>?_) λb o hb=>⟨(nb b o hb).2.2,ran b o (k5 b o (k4 b o hb (by simp)))⟩
   ·obtain⟨v,hv⟩:=t6.rt;have tS:Tree S tr (xY x p N):=t6.fr (λb hb=>by
     obtain⟨A,B,m,q,e'⟩:=xi hb;have Ye:=t6;rw[e'] at Ye;obtain⟨_,_,_,_,h⟩:=Ye.node;rw[h];show kk _ _ h (by simp)) (by rw[hv];show kk _ _ hv (by simp))
    exact⟨_,tS,?_,λi q hi=>?_⟩
    ·dsimp only[xY];by_cases g:0<N
     ·rw[if_pos g];show N+0=N;show⟨"a+0=a"⟩
     ·rw[if_neg g];show(0:Int)=N;show⟨"0=a,0:a,!0<a;1,1,0;1,0,1",dG,g⟩
    ·have dH:q=p:=by
      dsimp only[xY] at hi;by_cases g:0<N
      ·rw[if_pos g] at hi;have:eI [(x,N,p)]=bH N.toNat p:=by dsimp only[eI];simp
       rw[this,oP] at hi;split at hi
       ·cases hi;rfl
       ·cases hi
      ·rw[if_neg g] at hi;simp[eI] at hi
     rw[dH];show⟨ran _ _ g3,[],⟨[],kk _ _ (k6 _ _ g3) (by simp),.nil⟩,⟨by simp,by simp⟩,λk=>rfl⟩
   ·show kS b o (nb b o hb).1 (Dq _ _ (k4 b o hb (by simp)))
  show fin _ au λb hb=>by rw[ao hb,ao hb]
class inductive lQ(N sv:Int):List Row->List (Nat->Mp)->(Nat->Mp)->Prop
 |nil:lQ N sv [] [] M0
 |first {M' G}:vo N M0 M' G->G≠[]->lQ N sv (.iq sv::G) [M0] M'
 |snoc {C Ms M M' G}:lQ N sv C Ms M->C≠[]->vo N M M' G->G≠[]->lQ N sv (C++[.cL]++G) (Ms++[M]) M'
theorem vo.Yg{N M M' G}(h:vo N M M' G):∀r∈G,xx r=false:=λr hr=>by
 obtain⟨_,_,_,_,e,_⟩:=h.ok r hr;subst e;rfl
def lQ.rk{N sv C Ms M}(h:lQ N sv C Ms M)(hc:C≠[]):rk C=false:=by
 have key:∀(A G:List Row),G≠[]->(∀r∈G,xx r=false)->Tactic.rk (A++G)=false:=λA G hG hn=>by
  obtain⟨G',g,rfl⟩:∃G' g,G=G'++[g]:=⟨_,_,(kr hG).symm⟩;unfold Tactic.rk;rw[<-dR,List.getLast?_append];simp;show hn g (by simp)
 cases h with
 |nil=>show absurd rfl hc
 |first g1 g2=>show key [.iq sv] _ g2 g1.Yg
 |snoc _ _ g1 g2=>show key _ _ g2 g1.Yg
def lQ.ms{N sv C Ms M}(h:lQ N sv C Ms M):C=[]↔Ms=[]:=by
 cases h with
 |nil=>simp
 |first=>simp
 |snoc=>simp
def alH{L:List Row}:rk (L++[.cL])=true:=by unfold rk;simp;rfl
def bd(C:List Row):List Row:=if C=[] then [] else C++[.cL]
def Yh{N sv C Ms M}(h:lQ N sv C Ms M){L:List Row}(hL:L=C\/L=C++[.cL]/\C≠[]):(if rk L then L else L++[.cL])=bd C:=by
 unfold bd;rcases hL with rfl | ⟨rfl,hc⟩
 ·by_cases hc:L=[]
  ·subst hc;rfl
  ·rw[h.rk hc,if_neg hc];rfl
 ·rw[alH,if_neg hc];rfl
theorem ER{Y dk d0 j x}{as:List Nat}(h:Dk Y dk d0 j)(hx:Y x=some (.lst (as.map V.ref))):x≠dk:=λe=>by
 obtain⟨l,h1,_⟩:=h.d;rw[e,h1] at hx;have:[V.ref d0,V.int j]=as.map V.ref:=by injection hx with hx;injection hx
 rcases as with _ | ⟨a,_ | ⟨b,_⟩⟩<;>simp at this
def DL.rT{ra d7 Y s x M N xs}(h:DL Y x M N)(f:xJ ra d7 Y s)(hx:x≠ra)(hr:Y ra=some (.lst xs)):DL s x M N:=by
 obtain⟨as,h1,h2⟩:=h;show⟨as,(f _ _ h1 (λ_ _ e=>by cases e) hx).1,h2.fr λa es ep e=>(f _ _ e (λ_ _ e=>by cases e) λq=>by nomatch q,hr,e).1⟩
def DL.oC{dk d0 Y s x M N j}(h:DL Y x M N)(f:rA dk Y s)(hd:Dk Y dk d0 j):DL s x M N:=by
 obtain⟨as,h1,h2⟩:=h;exact⟨as,f _ _ h1 (ER hd h1),h2.fr λa es ep e=>f _ _ e λq=>?_⟩;obtain⟨l,g1,_⟩:=hd.d
 nomatch q,g1,e
def UR.refs{Y vs L}(h:UR Y vs L):∃as:List Nat,vs=as.map V.ref:=by
 induction h with
 |nil=>show⟨[],rfl⟩
 |@cons a r vs L h1 h2 ih=>obtain⟨as,rfl⟩:=ih;show⟨a::as,rfl⟩
def Bs.oC{c Y Y' ra rd tk sv nt L M dk d0 j}(h:Bs c Y ra rd tk sv nt L M)(f:rA dk Y Y')(hd:Dk Y dk d0 j)(EL:c.ce≠dk):Bs c Y' ra rd tk sv nt L M:=by
 obtain⟨l,g1,_⟩:=hd.d;obtain⟨xs,h1,h2⟩:=h.rows;obtain⟨ys,h3,h4,h5⟩:=h.ce;obtain⟨v,hv⟩:=h.tree.ex.choose_spec.1.rt;have g:∀{b o},Y b=some o->(∀xs,o≠.lst xs)->Y' b=some o:=λ{b o} e n=>f _ _ e λq=>by nomatch q,g1,e;show n _ rfl
 obtain⟨as,eas⟩:=h2.refs;have jC:ra≠dk:=ER hd (eas ▸ h1);have iV:c.ls≠dk:=ER (as:=[]) hd h.ls.1;exact⟨g h.bf (by simp),g h.un (by simp),g h.ul (by simp),⟨xs,f _ _ h1 jC,h2.fr λa xs e=>g e (by simp)⟩,⟨f _ _ h.ls.1 iV,h.ls.2⟩,g h.tx (by simp),⟨ys,f _ _ h3 EL,h4,h5⟩,g h.tp (by simp),?_,g h.cL (by simp)⟩;obtain⟨sq,a,b,d⟩:=h.tree;exact⟨sq,a.fr (λx hx=>?_) ?_,b,λi p hp=>?_⟩
 ·obtain⟨A,B,n,p,rfl⟩:=xi hx;obtain⟨_,_,_,_,e⟩:=a.node;rw[e];show g e (by simp)
 ·obtain⟨w,hw⟩:=a.rt;rw[hw];show g hw (by simp)
 ·obtain⟨q0,l,⟨vs,q1,q2⟩,q3,q4⟩:=d i p hp;have pd:p≠dk:=λe=>by
   nomatch e,g1,q1
   cases q2 with
   |cons _ q=>cases q
  show⟨q0,l,⟨vs,f _ _ q1 pd,q2.fr λx xs hx=>g hx (by simp)⟩,q3,q4⟩
def St(Y:So)(ra:Nat)(N:Int)(ss:List Nat)(Ms:List (Nat->Mp)):Prop:=ss.length=Ms.length/\∀(i:Nat) s M,ss[i]?=some s->Ms[i]?=some M->s≠ra/\DL Y s M N
def St.app{Y ra N ss Ms s M}(h:St Y ra N ss Ms)(hs:s≠ra)(hd:DL Y s M N):St Y ra N (ss++[s]) (Ms++[M]):=by
 exact⟨by simp[h.1],λi t M' h1 h2=>?_⟩;rcases dq i ss.length with q | q
 ·rw[eY q] at h1;rw[eY (by rw[<-h.1];show q)] at h2;show h.2 i t M' h1 h2
 ·rw[fS q] at h1;rw[fS (by rw[<-h.1];show q)] at h2;rw[<-h.1] at h2;rcases ph (i-ss.length) with e | e
  ·rw[e] at h1 h2;simp at h1 h2;subst h1;subst h2;show⟨hs,hd⟩
  ·nomatch di (by simp;show⟨"1.A,0>A",e⟩),h1
def St.rT{ra d7 Y s N ss Ms xs}(h:St Y ra N ss Ms)(f:xJ ra d7 Y s)(hr:Y ra=some (.lst xs)):St s d7 N ss Ms:=by
 exact⟨h.1,λi t M h1 h2=>?_⟩;obtain⟨a,b⟩:=h.2 i t M h1 h2;obtain⟨as,b1,_⟩:=id b;show⟨(f _ _ b1 (λ_ _ e=>by cases e) a).2,b.rT f a hr⟩
theorem St.oC{dk d0 ra Y s N ss Ms j}(h:St Y ra N ss Ms)(f:rA dk Y s)(hd:Dk Y dk d0 j):St s ra N ss Ms:=⟨h.1,λi t M h1 h2=>⟨(h.2 i t M h1 h2).1,(h.2 i t M h1 h2).2.oC f hd⟩⟩
theorem St.bj{ra Y s N ss Ms}(h:St Y ra N ss Ms)(f:Fr [] Y s):St s ra N ss Ms:=⟨h.1,λi t M h1 h2=>⟨(h.2 i t M h1 h2).1,(h.2 i t M h1 h2).2.bj f⟩⟩
def Dk.dI{Y Y' dk d0 j ra xs L}(h:Dk Y dk d0 j)(f:dE ra Y Y')(hr:Y ra=some (.lst xs))(hu:UR Y xs L)(hd:d0≠ra):Dk Y' dk d0 j:=by
 obtain⟨as,e⟩:=hu.refs;have:ra≠dk:=ER h (e ▸ hr);obtain⟨⟨l,h1,h2,h3,h4⟩,g0,g1⟩:=h;show⟨⟨l,f _ _ h1 (λ_ _ e=>by cases e) (aj this),f _ _ h2 (λ_ _ e=>by cases e) hd,h3,h4⟩,g0,g1⟩
def ahJ(N:Int)(d:De)(rd:Bool)(M:Nat->Mp):eX N d rd M=.str 34\/eX N d rd M=.str 35\/eX N d rd M=.bool false\/eX N d rd M=.bool true:=by
 unfold eX;split
 ·simp
 ·split
  ·simp
  ·split
   ·simp
   ·split<;>simp
def Yi:List Sm:=match f0.body.drop 3 with
 | .cD _ _ b::_=>b
 |_=>[]
def Bh(a dk:Nat)(N:Int)(bf x st:Nat):Env:=[(1,.ref a),(0,.ref dk),(2,.int N),(3,.ref bf),(4,.ref x),(5,.ref st)]
def HJ(a dk:Nat)(N:Int)(bf x st:Nat)(u7 u8 u9 iL iM nP iy:V):Env:=[(1,.ref a),(0,.ref dk),(2,.int N),(3,.ref bf),(4,.ref x),(5,.ref st),(7,u7),(8,u8),(9,u9),(12,iL),(13,iM),(17,nP),(19,iy)]
structure Iv(c:Cf)(sv:Int)(Y:So)(dk d0 ra x st:Nat)(i:Int)(rd:Bool)(tk:Int)(nt:Option Int)(L C:List Row)(M:Nat->Mp)(Ms:List (Nat->Mp))(ss:List Nat)(j:Int):Prop where
 bs:Bs c Y ra rd tk sv nt L M
 eT:lQ c.N sv C Ms M
 core:L=C\/L=C++[.cL]/\C≠[]
 fl:(C=[]->tk=sv/\nt=none)/\(C≠[]->sv<tk/\nt=some sv)
 deck:Dk Y dk d0 j
 hj:j<=2+10 * i
 Ds:d0≠ra
 Dt:c.ce≠dk
 own:x≠ra/\DL Y x M c.N
 lR:Y st=some (.lst (ss.map V.ref))/\st≠ra/\St Y ra c.N ss Ms
 len:(C.length:Int)<=70 * i
def Iv.dI{c sv Y Y' dk d0 ra x st i rd tk nt L C M Ms ss j rd' tk' nt' L'}(h:Iv c sv Y dk d0 ra x st i rd tk nt L C M Ms ss j)(f:dE ra Y Y')(hb:Bs c Y' ra rd' tk' sv nt' L' M):Dk Y' dk d0 j/\DL Y' x M c.N/\Y' st=some (.lst (ss.map V.ref))/\St Y' ra c.N ss Ms:=by
 obtain⟨xs,hx,hu⟩:=h.bs.rows;show⟨h.deck.dI f hx hu h.Ds,h.own.2.rT f.x h.own.1 hx,f _ _ h.lR.1 (λ_ _ e=>by cases e) h.lR.2.1,h.lR.2.2.rT f.x hx⟩
def Iv.Yj{c sv Y dk d0 ra x st i rd tk nt L C M Ms ss j}(h:Iv c sv Y dk d0 ra x st i rd tk nt L C M Ms ss j):L.length<=C.length+1:=by
 rcases h.core with e | e
 ·rw[e];show⟨"A.A+1"⟩
 ·rw[e.1];simp
def Yk(C:List Row):(bd C).length<=C.length+1:=by unfold bd;split<;>simp
def Km{K:Bool->So->Prop}{X:Nat->So->Prop}(hm:lk m y=some (.int j))(h:K (decide (j<i)) s):wE W (.v y) m (λw s=>cmp .gt (.int i) w (λt=>K t s) s) X s:=by
 show match lk m y with
  |some (.dz _ _ _)=>False
  |some v=>cmp .gt (.int i) v (λt=>K t s) s
  |aP=>False
 rw[hm];show h
def al2(C:List Row):bd C=C\/bd C=C++[.cL]/\C≠[]:=by
 unfold bd;by_cases h:C=[]
 ·rw[if_pos h];show .inl h.symm
 ·rw[if_neg h];show .inr ⟨rfl,h⟩
def lQ.Yl{N sv C Ms M}(h:lQ N sv C Ms M):Ms.length<=C.length:=by
 induction h with
 |nil=>simp
 |first g1 g2=>simp
 |snoc _ _ _ g ih=>
  have:=oU.mpr g;simp;show⟨"A+1.B+(C+1),A.B,0>C",ih,this⟩
def lQ.Yn{N sv C Ms M}(h:lQ N sv C Ms M)(hc:C=[]):Ms=[]/\M=M0:=by
 cases h with
 |nil=>show⟨rfl,rfl⟩
 |first=>cases hc
 |snoc=>simp at hc
def aiz{N sv C Ms M M' G tk nt}(h:lQ N sv C Ms M)(fl:(C=[]->tk=sv/\nt=none)/\(C≠[]->sv<tk/\nt=some sv))(gr:vo N M M' G)(gn:G≠[]):lQ N sv (bd C++pc tk sv nt++G) (Ms++[M]) M':=by
 by_cases hc:C=[]
 ·obtain⟨e1,e2⟩:=fl.1 hc;subst hc;have hp:pc tk sv nt=[.iq sv]:=by unfold pc;rw[if_pos ⟨⟨"a:b,a=b",e1⟩,by rw[e2];simp⟩]
  have hb:bd []=[]:=by unfold bd;rw[if_pos rfl]
  rw[hp,hb];obtain⟨rfl,rfl⟩:=h.Yn rfl;show .first gr gn
 ·obtain⟨e1,e2⟩:=fl.2 hc;have hp:pc tk sv nt=[]:=by unfold pc;rw[if_neg (λe=>⟨"_,a<b,b:a;0,1,1",e1,e.1⟩)]
  have hb:bd C=C++[.cL]:=by unfold bd;rw[if_neg hc]
  rw[hp,hb,bG];show .snoc h hc gr gn
def xQ.fr{Y Y' a d}(h:xQ Y a d)(f:∀a xs,Y a=some (.tup xs)->Y' a=some (.tup xs)):xQ Y' a d:=by
 obtain⟨t,h1,h2⟩:=h;show⟨t,f _ _ h1,f _ _ h2⟩
theorem rA.tup{dk Y Y' d0 j}(f:rA dk Y Y')(hd:Dk Y dk d0 j):∀a xs,Y a=some (.tup xs)->Y' a=some (.tup xs):=λa xs h=>f _ _ h λe=>by
 obtain⟨l,g,_⟩:=hd.d
 nomatch e,g,h
abbrev Bl(a dk:Nat)(N:Int)(bf x st:Nat)(ex:Env):Env:=(1,.ref a)::(0,.ref dk)::(2,.int N)::(3,.ref bf)::(4,.ref x)::(5,.ref st)::ex
def Yo{Q:V->So->Prop}{X:Nat->So->Prop}(hm:lk m y=some v)(hv:v=.str 34\/v=.str 35\/v=.bool false)(h:Q v s):wE W (.v y) m Q X s:=by
 show match lk m y with
  |some (.dz _ _ _)=>False
  |some v=>Q v s
  |aP=>False
 rw[hm];rcases hv with rfl | rfl | rfl<;>show h
theorem aqb{K:Bool->So->Prop}{X:Nat->So->Prop}(hm:lk m y=some v)(hv:v=.str 34\/v=.str 35\/v=.bool false)(h:K false s):wE W (.v y) m (λw s=>cmp .ne v w (λt=>K t s) s) X s:=
 Yo hm hv (by rcases hv with rfl | rfl | rfl<;>show h)
def apa{x:Nat}{l:List Sm}{N R X}(hm:lk m y=some v)(hv:v=.str 34\/v=.str 35\/v=.bool false)(h:wSs W l (Tactic.up m x (.bool false)) N R X s):wSs W (.asg (.v x) (.isTrue (.v y))::l) m N R X s:=by
 show wE W (.v y) m (λv s=>match v with
  | .bool b=>wSs W l (Tactic.up m x (.bool b)) N R X s
  | .str k=>k<125/\wSs W l (Tactic.up m x (.bool false)) N R X s
  |_=>False) X s
 exact Yo hm hv ?_;rcases hv with rfl | rfl | rfl
 ·show⟨(by decide:34<125),h⟩
 ·show⟨(by decide:35<125),h⟩
 ·show h
def turn{n Q a c sv Y dk d0 ra x st rd tk nt L C M Ms ss j}{env:Env}{K:Env->So->Prop}(h:Iv c sv Y dk d0 ra x st i rd tk nt L C M Ms ss j)(hi0:0<=i)(hi:i<9)(dG:0<=c.N)(hN:c.N<=8)
  (aE:env=Bh a dk c.N c.bf x st\/∃u7 u8 u9 iL iM nP iy,env=HJ a dk c.N c.bf x st u7 u8 u9 iL iM nP iy)
  (hK:∀Y' x' jw rd' tk' nt' L' C' M' fK jP j',Iv c sv Y' dk d0 ra x' jw (i+1) rd' tk' nt' L' C' M' fK jP j'->∀u7 u8 u9 iL iM nP iy,K (HJ a dk c.N c.bf x' jw u7 u8 u9 iL iM nP iy) Y')
  : jI [7] (.int i) env (λm'=>wSs (Wn (n+13)) Yi m' K Q bW Y) Y:=by
 have xP:=h.hj;obtain⟨e6,rfl,hs⟩:∃e6,env=Bl a dk c.N c.bf x st e6/\Suf [7,8,9,12,13,17,19] e6:=by
  rcases aE with rfl | ⟨u7,u8,u9,iL,iM,nP,iy,rfl⟩
  ·show⟨[],rfl,.none _⟩
  ·show⟨_,rfl,⟨[u7,u8,u9,iL,iM,nP,iy],rfl⟩⟩
 clear aE;obtain⟨e7,hs,u7⟩:=hs.up;obtain⟨e8,hs,u8⟩:=hs.up;obtain⟨e9,hs,u9⟩:=hs.up;obtain⟨EP,hs,iL⟩:=hs.up;obtain⟨Qb,hs,iM⟩:=hs.up;obtain⟨Bc,hs,nP⟩:=hs.up;obtain⟨e19,hs,iy⟩:=hs.up;have hs:=hs.nil;subst hs;show wSs (Wn (n+13)) Yi (Bl a dk c.N c.bf x st (Tactic.up e6 7 (.int i))) K Q bW Y;rw[u7];exact deed h.deck ⟨"a+10<1000,b<9,a:2+10*b;1,10,1",hi,xP⟩ dG λad d s1 uK aA HK f1=>?_;have xZ:=h.bs.oC f1 h.deck h.Dt
 exists xZ.bf
 exact O9 xZ ?_;intro w hw;have f2:Fr [] s1 (put s1 w (.tup [.ref ad,.int tk])):=.new hw
 exists au
 exact⟨rfl,?_⟩;show wSs (Wn (n+13)) _ (Bl a dk c.N c.bf x st ((7,.int i)::Tactic.up (Tactic.up e7 8 (.ref ad)) 9 (.int tk))) K Q bW _;rw[u8,show Tactic.up ((8,V.ref ad)::e8) 9 (.int tk)=(8,V.ref ad)::(9,.int tk)::e9 from congrArg _ (u9 _)];exact draw (HK.new f2) ⟨"a+6<1000,b<9,a:2+10*b;1,10,1",hi,xP⟩ (by decide) λr s3 r0 r1 Qh o3=>?_;have Kn:=(f1.trans f2.oC).trans (xR o3);have nM:=h.bs.oC Kn h.deck h.Dt;have Qi:s3 st=some (.lst (ss.map V.ref)):=Kn _ _ h.lR.1 (ER h.deck h.lR.1);have h3:Iv c sv s3 dk d0 ra x st (i+1) rd tk nt L C M Ms ss (j+6+1):=⟨nM,h.eT,h.core,h.fl,Qh,⟨"a+6+1:2+10*(b+1),a:2+10*b",xP⟩,h.Ds,h.Dt,⟨h.own.1,h.own.2.oC Kn h.deck⟩,⟨Qi,h.lR.2.1,h.lR.2.2.oC Kn h.deck⟩,by have:=h.len;show⟨"'A:70*(a+1),'A:70*a",this⟩⟩;have HL:xQ s3 ad d:=(uK.fr (λa xs e=>f2 a _ e (by simp))).fr (rA.tup (xR o3) (HK.new f2));exact sat nM.bf ?_;have Bm:=nM.J9 (rd':=decide (r=5)) (tk':=tk) (sv':=sv);have f4:dE ra s3 (put s3 c.bf (EB c (decide (r=5)) tk sv)):=.inst nM.bf;obtain⟨Qj,Ko,Qk,vD⟩:=h3.dI f4 Bm;obtain⟨xs3,Bk,_⟩:=nM.rows;have Du:=HL.fr (f4.tup Bk);have h4:Iv c sv (put s3 c.bf (EB c (decide (r=5)) tk sv)) dk d0 ra x st (i+1) (decide (r=5)) tk nt L C M Ms ss (j+6+1):=⟨Bm,h.eT,h.core,h.fl,Qj,⟨"a+6+1:2+10*(b+1),a:2+10*b",xP⟩,h.Ds,h.Dt,⟨h.own.1,Ko⟩,⟨Qk,h.lR.2.1,vD⟩,by have:=h.len;show⟨"'A:70*(a+1),'A:70*a",this⟩⟩;generalize Ba:decide (r=5)=x9 at *;exact bh Bm.bf ?_;exact apP Ko dG hN Du aA λw5 x' s5 f5 hw5 EV hn5 ht5=>?_;have h5:Iv c sv s5 dk d0 ra x st (i+1) x9 tk nt L C M Ms ss (j+6+1):=⟨Bm.bj f5,h.eT,h.core,h.fl,Qj.new f5,⟨"a+6+1:2+10*(b+1),a:2+10*b",xP⟩,h.Ds,h.Dt,⟨h.own.1,Ko.bj f5⟩,⟨f5.k Qk,h.lR.2.1,vD.bj f5⟩,by have:=h.len;show⟨"'A:70*(a+1),'A:70*a",this⟩⟩;have eU:=h.len;have vE:=h.Yj;have lh:=Yk C;have Ql:=Du.fr λa xs e=>f5 a _ e (by simp);have vF:x'≠ra:=λe=>by
  rcases EV with EV | EV
  ·show h.own.1 (EV ▸ e)
  ·obtain⟨xs4,hx4,_⟩:=Bm.rows;rw[e] at EV;have q:=EV.symm.trans hx4;cases q
 clear h4 Bm f4 Qj Ko Qk vD Du HL h3 f5
 exists hw5
 exact⟨rfl,?_⟩;show wSs (Wn (n+13)) _ (Bl a dk c.N c.bf x st ((7,.int i)::(8,.ref ad)::(9,.int tk)::Tactic.up (Tactic.up e9 12 (eX c.N d x9 M)) 13 (.ref x'))) K Q bW _;rw[iL,show Tactic.up ((12,eX c.N d x9 M)::EP) 13 (.ref x')=(12,eX c.N d x9 M)::(13,.ref x')::Qb from congrArg _ (iM _)];exact bh h5.bs.bf ?_;exact bh h5.bs.un ?_
 exists h5.bs.ul
 exact boundary h5.bs ⟨"A>90000,a<9,'B:70*a,A.B+1;1,70,1,1",hi,eU,vE⟩ λs6 qG f6=>?_;rw[Yh h.eT h.core] at qG;obtain⟨Yq,Kp,Yr,HM⟩:=h5.dI f6 qG;obtain⟨xs5,Dv,_⟩:=h5.bs.rows;have HN:=Ql.fr (f6.tup Dv);obtain⟨HP,EW,Ys⟩:=qG.rows;exact bh qG.bf ?_;exact bh qG.un ?_;exact bh qG.ul ?_
 exists EW
 show wSs (Wn (n+13)) _ (Bl a dk c.N c.bf x st ((7,.int i)::(8,.ref ad)::(9,.int tk)::(12,eX c.N d x9 M)::(13,.ref x')::Tactic.up Qb 17 (.int HP.length))) K Q bW _;rw[nP];have hv:=ahJ c.N d x9 M;rw[<-or_assoc,<-or_assoc,or_assoc (a:=eX c.N d x9 M=V.str 34)] at hv;rcases hv with hv | hv
 rotate_left 1
 ·have ya:=(ht5 hv).rT f6.x vF Dv;exact done qG ⟨"A>50000,a<9,'B:70*a,A.B+1;1,70,1,1",hi,eU,lh⟩ dG hN HN aA (λe=>absurd hv e) (λ_ s7 G EX gr gn gl f7=>?_);rw[hv];have HQ:=ya.rT f7.x vF EW;have Qm:=Kp.rT f7.x h.own.1 EW;have dk7:=Yq.dI f7 EW Ys h.Ds;have st7:=f7 _ _ Yr (λ_ _ e=>by cases e) h.lR.2.1;have Qn:=HM.rT f7.x EW;exact shown EX dG hN λa7 s8 f8 Dw=>?_;exact P4 (by rfl) (HQ.bj f8) dG hN λa9 s9 f9 HR=>?_;exact .inl ⟨_,_,Dw.fr f9,HR,Bj _ _,Bj _ _,?_⟩;rw[Kj];have Ah:=f8.trans f9;have rU:=EX.bj Ah;obtain⟨xs9,Hj,hu9⟩:=rU.rows;have l6:=Ys.len;have l9:=hu9.len;have Qo:=oU.mpr gn;have hpc:=Pb (tk:=tk) (sv:=sv) (nt:=nt);show wSs (Wn (n+13)) _ (Bl a dk c.N c.bf x st ((7,.int i)::(8,.ref ad)::(9,.int tk)::(12,.bool true)::(13,.ref x')::(17,.int HP.length)::Tactic.up Bc 19 (.bool true))) K Q bW _;rw[iy]
  exists rU.bf
  exact O9 rU ?_;exact Km (by rfl) ?_;rw[decide_eq_true (show tk<tk+1 from by show⟨"a<a+1"⟩)];exact bh rU.bf ?_;exact bh rU.un ?_;exact bh rU.ul ?_
  exists Hj
  exact Km (by rfl) ?_;rw[decide_eq_true (show((HP.length:Nat):Int)<((xs9.length:Nat):Int) by simp at l9;show⟨"'A<'B,A~C,0>D,B~C+(E+D);1,1,1,-1",l6,Qo,l9⟩)];intro w10 Qp;have rF:Fr [] s9 (put s9 w10 (.lst [.ref x])):=.new Qp;have ssl:ss.length<=1000:=by
   have a1:=h.lR.2.2.1;have a2:=h.eT.Yl;show⟨"A.1000,a<9,'B:70*a,A~C,C.B;1,70,1,1,1",hi,eU,a1,a2⟩
  exact GX (rF.k (Ah.k st7)) au (by simp;unfold big;show⟨"A+1>100000,A.1000",ssl⟩) λjw HS=>?_;have fz:=(Ah.trans rF).trans (Fr.CZ (o:=.lst (ss.map V.ref++[.ref x])) HS);intro w11 HV;have vO:=fz.trans (Fr.CZ (o:=.tup [.ref jw,.ref x']) HV)
  exists au
  exact⟨rfl,?_⟩;have HW:jw≠ra:=λe=>by
   nomatch e,(Ah.trans rF).k (show s7 ra=_ from (EX.rows.choose_spec.1)),HS
  have HX:(Tactic.put (Tactic.put (Tactic.put s9 w10 (.lst [.ref x])) jw (.lst (ss.map V.ref++[.ref x]))) w11 (.tup [.ref jw,.ref x'])) jw=some (.lst ((ss++[x]).map V.ref)):=by
   rw[fW];show(Fr.CZ (o:=.tup [.ref jw,.ref x']) HV).k au
  exact hK _ x' jw _ _ _ _ _ _ _ _ _ ⟨EX.bj vO,aiz h.eT h.fl gr gn,.inl rfl,⟨λe=>absurd e (by simp[gn]),λ_=>?_⟩,dk7.new vO,⟨"a+6+1:2+10*(b+1),a:2+10*b",xP⟩,h.Ds,h.Dt,⟨vF,HQ.bj vO⟩,⟨HX,HW,(Qn.bj vO).app h.own.1 (Qm.bj vO)⟩,by simp;show⟨"'A+('B+'C):70*(a+1),'D:70*a,A.D+1,C.60,B.1",eU,lh,gl,hpc⟩⟩ _ _ _ _ _ _ _;by_cases hc:C=[]
  ·obtain⟨e1,e2⟩:=h.fl.1 hc;show⟨⟨"a<b+1,b=a;1,-1",e1⟩,by unfold jE;rw[if_pos ⟨"a:b,a=b",e1⟩]⟩
  ·obtain⟨e1,e2⟩:=h.fl.2 hc;show⟨⟨"a<b+1,a<b",e1⟩,by unfold jE;rw[if_neg ⟨"!a:b,b<a",e1⟩];show e2⟩
 ·have ya:=(hn5 (by rcases hv with e | e | e<;>rw[e]<;>simp)).rT f6.x vF Dv;exact done qG ⟨"A>50000,a<9,'B:70*a,A.B+1;1,70,1,1",hi,eU,lh⟩ dG hN HN aA (λ_ s7 f7=>?_) (λe=>by rcases hv with q | q | q<;>rw[q] at e<;>cases e);exact aqb (by rfl) hv ?_;exact shown (qG.bj f7) dG hN λa7 s8 f8 Dw=>?_;exact P4 (by rfl) (ya.bj (f7.trans f8)) dG hN λa9 s9 f9 HR=>?_;exact .inl ⟨_,_,Dw.fr f9,HR,Bj _ _,Bj _ _,?_⟩;rw[Kj];have DG:=(f7.trans f8).trans f9;have rU:=qG.bj DG;have Hj:=DG.k EW;show wSs (Wn (n+13)) [.asg (.v 19) (.isTrue (.v 12)),_,_] (Bl a dk c.N c.bf x st ((7,.int i)::(8,.ref ad)::(9,.int tk)::(12,eX c.N d x9 M)::(13,.ref x')::(17,.int HP.length)::Bc)) K Q bW s9;exact apa (by rfl) hv ?_;show wSs (Wn (n+13)) _ (Bl a dk c.N c.bf x st ((7,.int i)::(8,.ref ad)::(9,.int tk)::(12,eX c.N d x9 M)::(13,.ref x')::(17,.int HP.length)::Tactic.up Bc 19 (.bool false))) K Q bW _;rw[iy]
  exists rU.bf
  exact O9 rU ?_;exact Km (by rfl) ?_;rw[decide_eq_false (iX _)];exact bh rU.bf ?_;exact bh rU.un ?_;exact bh rU.ul ?_
  exists Hj
  exact Km (by rfl) ?_;rw[decide_eq_false (iX _)];intro w9 hw9
  exists au
  exact⟨rfl,?_⟩;have fz:=DG.trans (Fr.CZ (o:=.tup [.ref st,.ref x']) hw9);show hK _ x' st _ _ _ _ _ _ _ _ _ ⟨qG.bj fz,h.eT,al2 C,h.fl,Yq.new fz,⟨"a+6+1:2+10*(b+1),a:2+10*b",xP⟩,h.Ds,h.Dt,⟨vF,ya.bj fz⟩,⟨fz.k Yr,h.lR.2.1,HM.bj fz⟩,⟨"'A:70*(a+1),'A:70*a",eU⟩⟩ _ _ _ _ _ _ _
abbrev Kq(a dk:Nat)(N:Int)(bf x st:Nat)(u7 u8 u9 iL iM:V)(wm:Nat)(iy:V)(at_:Int)(ex:Env):Env:=(1,.ref a)::(0,.ref dk)::(2,.int N)::(3,.ref bf)::(4,.ref x)::(5,.ref st)::(7,u7)::(8,u8)::(9,u9)::(12,iL)::(13,iM)::(17,.ref wm)::(19,iy)::(6,.int at_)::ex
structure Iu(c:Cf)(sv:Int)(s:So)(dg rev:Nat)(vs:List V)(LL:List Row)(its:List V)(rest:List V)(at_:Int)(ra:Nat)(tk' sv':Int)(nt:Option Int)(L C:List Row)(Ms:List (Nat->Mp))(M:Nat->Mp)(B T:List Row)(ss:List Nat):Prop where
 rest:rest=(ss.map V.ref).reverse
 at_:at_=((C++B).length:Nat)
 bs:Bs c s ra false tk' sv' nt L M
 eT:lQ c.N sv C Ms M
 ll:LL=C++B++T
 bb:∀r∈B,r=.cL
 wm:s dg=some (.lst vs)/\dg≠ra
 ur:UR s vs LL
 lR:St s ra c.N ss Ms
 f1:Ms≠[]->sv'=sv/\sv<tk'/\L.length+8 * C.length<=20000
 f0:Ms=[]->sv'=tk'
 rv:s rev=some (.lst its)/\rev≠ra
def aiN{n Q c sv s dg rev vs LL its v rest at_ ra tk' sv' nt L C Ms M B T ss}{K:V->Int->So->Prop}(h:Iu c sv s dg rev vs LL its (v::rest) at_ ra tk' sv' nt L C Ms M B T ss)(dG:0<=c.N)(hN:c.N<=8)
  (hK:∀s' x M' at' d7 ru Dx nt' L' C' fK B' T' jP,v=.ref x->Iu c sv s' dg rev vs LL its rest at' d7 ru Dx nt' L' C' fK M' B' T' jP->DL s' x M' c.N->Q (.int at') s')
  : (Wn (n+13)).call 8 [.ref c.bf,.ref dg,.int at_] Q bW s:=by
 obtain⟨jP,x,ess⟩:∃jP x,ss=jP++[x]:=by
  cases ss with
  |nil=>have:=h.rest;simp at this
  |cons y ys=>show⟨_,_,(kr (by simp)).symm⟩
 have jy:=h.rest;subst ess;have e0:(((jP++[x]).map V.ref)).reverse=.ref x::(jP.map V.ref).reverse:=by simp
 rw[e0] at jy;injection jy with ev er;obtain⟨q1,q2⟩:=h.lR;have Yt:Ms≠[]:=λe=>by rw[e] at q1;simp at q1
 obtain⟨EY,rN,hlen⟩:=h.f1 Yt;obtain⟨xs,jL,_⟩:=h.bs.rows;have B6:=h.at_;have xH:=h.ll;have HY:=h.eT;have EZ:=h.ur;have I7:∀fK M1,Ms=fK++[M1]->x≠ra/\DL s x M1 c.N:=λfK M1 e=>by
  have hl:jP.length=fK.length:=by rw[e] at q1;simpa using q1
  show q2 jP.length x M1 (by simp) (by rw[e,hl];simp)
 have stM:∀fK M1,Ms=fK++[M1]->St s ra c.N jP fK:=λfK M1 e=>by
  have hl:jP.length=fK.length:=by rw[e] at q1;simpa using q1
  exact⟨hl,λi t M2 h1 h2=>q2 i t M2 ?_ ?_⟩
  ·have:i<jP.length:=by
    rcases dq i jP.length with g | g
    ·show g
    ·nomatch di g,h1
   rw[eY this];show h1
  ·have:i<fK.length:=by
    rcases dq i fK.length with g | g
    ·show g
    ·nomatch di g,h2
   rw[e,eY this];show h2
 have go:∀(P U G:List Row) (fK:List (Nat->Mp)) (M1:Nat->Mp) (C' B':List Row),C=P++(U++G)->Ms=fK++[M1]->vo c.N M1 M G->G≠[]->(P=[]\/∃P',P=P'++[.cL])->(U=[]\/U=[.iq sv])->P=C'++B'->(∀r∈B',r=.cL)->lQ c.N sv C' fK M1->(U=[]->fK≠[])->(U≠[]->fK=[])->(Wn (n+13)).call 8 [.ref c.bf,.ref dg,.int at_] Q bW s:=by
  intro P U G fK M1 C' B' eC eM hG PF hP hU eP EI hH hU1 hU2;rw[B6,eC];rw[xH,eC] at EZ;have Yu:C.length=P.length+(U.length+G.length):=by rw[eC];simp
  have hPl:P.length=C'.length+B'.length:=by rw[eP];simp
  exact ah0 (T:=T) h.bs ⟨"a<b,a=c,c<b",EY,rN⟩ ⟨"A+8*B>50000,A+8*C.20000,C~D+(E+B);1,1,-8",hlen,Yu⟩ dG hN h.wm.1 h.wm.2 EZ h.bb hP (by rw[EY];show hU) hG PF λs' d7 ru Dx HB bS oz oh fx=>?_;have Qq:=EZ.fr λa ys ha=>(fx a _ ha (λ_ _ e=>by cases e) λe=>by nomatch e,jL,ha).1
  obtain⟨lx,ld⟩:=I7 fK M1 eM;exact hK s' x M1 _ d7 ru Dx nt HB C' fK B' ((U++G)++B++T) jP ev ⟨er,by rw[eP],bS,hH,by rw[xH,eC,eP];simp,EI,⟨(fx _ _ h.wm.1 (λ_ _ e=>by cases e) h.wm.2).1,(fx _ _ h.wm.1 (λ_ _ e=>by cases e) h.wm.2).2⟩,by rw[xH,eC];show Qq,(stM fK M1 eM).rT fx jL,λhm=>?_,λhm=>?_,⟨(fx _ _ h.rv.1 (λ_ _ e=>by cases e) h.rv.2).1,(fx _ _ h.rv.1 (λ_ _ e=>by cases e) h.rv.2).2⟩⟩ (ld.rT fx lx jL)
  ·by_cases hu:U=[]
   ·rw[if_pos hu] at oz;rcases oh with oh | oh
    ·show⟨⟨"a=b,c=b,a=c;1,1,1;1,-1,-1",EY,oz.1⟩,⟨"a<b,c=a,d=c,d<b;1,-1,-1,1",EY,oz.1,oz.2⟩,⟨"A+8*B.20000,C+8*D.20000,D~E+(F+G),E~B+H,A.C+8*G;1,1,-8,-8,1",hlen,Yu,hPl,oh⟩⟩
    ·show absurd hu oh
   ·show absurd (hU2 hu) hm
  ·by_cases hu:U=[]
   ·show absurd hm (hU1 hu)
   ·rw[if_neg hu] at oz;show oz
 cases HY with
 |nil=>show absurd rfl Yt
 |@first M' G g1 g2=>show go [] [.iq sv] G [] M0 [] [] rfl rfl g1 g2 (.inl rfl) (.inr rfl) rfl (by simp) .nil (by simp) (by simp)
 |@snoc C' fK M1 M' G g1 g2 g3 g4=>
  show go (C'++[.cL]) [] G fK M1 C' [.cL] (by simp) rfl g3 g4 (.inr ⟨C',rfl⟩) (.inl rfl) rfl (by simp) g1 (λ_ e=>g2 (g1.ms.mpr e)) (by simp)
def alC{e:Nat}(he:s e=some (.lst []))(k:Nat):kW s ((bH k [V.ref e]).flatten) (acl k M0):=by
 induction k with
 |zero=>show .nil
 |succ k ih=>
  rw[List.replicate_succ',List.flatten_append,P2];show ih.app (.cons (.lst he .nil) .nil)
inductive LU(a dk:Nat)(c:Cf)(x st:Nat)(u7 u8 u9 iL iM iy:V)(dg rev:Nat)(sv:Int)(vs:List V)(LL:List Row)(its rest:List V)(env:Env)(s:So):Prop
 |mk (at_ d7 tk' sv' nt' L' C' fK M' B T jP ex):env=Kq a dk c.N c.bf x st u7 u8 u9 iL iM dg iy at_ ex->Suf [20] ex->Iu c sv s dg rev vs LL its rest at_ d7 tk' sv' nt' L' C' fK M' B T jP->LU a dk c x st u7 u8 u9 iL iM iy dg rev sv vs LL its rest env s
def alV{n Q a c sv Y dk d0 ra x st rd tk nt L C M Ms ss j}{u7 u8 u9 iL iM nP iy:V}(h:Iv c sv Y dk d0 ra x st i rd tk nt L C M Ms ss j)(hi:i<=9)(dG:0<=c.N)(hN:c.N<=8)(hq:∀s,Q (.bool true) s)
  : wSs (Wn (n+13)) (f0.body.drop 4) (HJ a dk c.N c.bf x st u7 u8 u9 iL iM nP iy) (qN Q) Q bW Y:=by
 have eU:=h.len;have vE:=h.Yj;have lh:=Yk C;obtain⟨xs0,M6,FK⟩:=h.bs.rows;have go:∀S:So,Bs c S ra false tk sv nt L M->dE ra Y S->wSs (Wn (n+13)) (f0.body.drop 5) (HJ a dk c.N c.bf x st u7 u8 u9 iL iM nP iy) (qN Q) Q bW S:=by
  intro S xZ f1;obtain⟨dk1,dl1,st1,Qr⟩:=h.dI f1 xZ;exact bh xZ.bf ?_;exact bh xZ.un ?_
  exists xZ.ul
  exact boundary xZ ⟨"A>90000,a:9,'B:70*a,A.B+1;1,70,1,1",hi,eU,vE⟩ λs2 rB f2=>?_;rw[Yh h.eT h.core] at rB;obtain⟨xs1,et,Qe⟩:=xZ.rows;have st2:=f2 _ _ st1 (λ_ _ e=>by cases e) h.lR.2.1;have Qs:=Qr.rT f2.x et;obtain⟨vs,qh,EZ⟩:=rB.rows;have DX:=EZ.len;exact bh rB.bf ?_;exact bh rB.un ?_;exact bh rB.ul ?_
  exists qh
  exact⟨by unfold big;show⟨"A>100000,a:9,'B:70*a,C.B+1,A~C;1,70,1,1,1",hi,eU,lh,DX⟩,λdg Yv=>?_⟩;have f3:Fr [] s2 (put s2 dg (.lst vs)):=.new Yv;have nM:=rB.bj f3;have Qt:dg≠ra:=λe=>by nomatch e,qh,Yv
  have HZ:put s2 dg (.lst vs) dg=some (.lst vs):=au;have st3:=f3.k st2;have Qu:=Qs.bj f3;have ur3:=EZ.fr λa ys e=>f3 a _ e (by simp);generalize put s2 dg (.lst vs)=s3 at *
  exists HZ
  exists st3
  have ssl:ss.length<=1000:=by
   have a1:=h.lR.2.2.1;have a2:=h.eT.Yl;show⟨"A.1000,a:9,'B:70*a,A~C,C.B;1,70,1,1,1",hi,eU,a1,a2⟩
  exact⟨by simp;unfold big;show⟨"A>100000,A.1000",ssl⟩,λrev H0=>?_⟩;have f4:Fr [] s3 (put s3 rev (.lst (ss.map V.ref).reverse)):=.new H0;obtain⟨ws,PJ,_⟩:=nM.rows;have H3:rev≠ra:=λe=>by nomatch e,PJ,H0
  have H4:put s3 rev (.lst (ss.map V.ref).reverse) rev=some (.lst (ss.map V.ref).reverse):=au;have Bm:=nM.bj f4;have Qv:=f4.k HZ;have vD:=Qu.bj f4;have ur4:=ur3.fr λa ys e=>f4 a _ e (by simp)
  exists H4
  generalize put s3 rev (.lst (ss.map V.ref).reverse)=s4 at *;have iu:Iu c sv s4 dg rev vs (bd C) (ss.map V.ref).reverse (ss.map V.ref).reverse ((vs.length:Nat):Int) ra tk sv nt (bd C) C Ms M (if C=[] then [] else [.cL]) [] ss:=by
   have eb:bd C=C++(if C=[] then [] else [.cL])++[]:=by
    unfold bd;by_cases hc:C=[]
    ·rw[if_pos hc,if_pos hc,hc];rfl
    ·rw[if_neg hc,if_neg hc];simp
   exact⟨rfl,?_,Bm,h.eT,eb,λr hr=>?_,⟨Qv,Qt⟩,ur4,vD,λhm=>?_,λhm=>?_,⟨H4,H3⟩⟩
   ·rw[DX];conv=>lhs;rw[eb]
    simp
   ·split at hr
    ·cases hr
    ·simpa using hr
   ·have hc:C≠[]:=λe=>hm (h.eT.ms.mp e);show⟨rfl,(h.fl.2 hc).1,⟨"A+8*B.20000,a:9,'B:70*a,A.B+1;1,630,9,1",hi,eU,lh⟩⟩
   ·show(h.fl.1 (h.eT.ms.mpr hm)).1.symm
  exact uX (LU a dk c x st u7 u8 u9 iL iM iy dg rev sv vs (bd C) (ss.map V.ref).reverse) ?_ ?_ ?_ _ _ _ ⟨_,_,_,_,_,_,_,_,_,_,_,_,[],rfl,.none _,iu⟩
  ·rintro _ _ s ⟨_,_,_,_,_,_,_,_,_,_,_,_,_,_,_,h⟩;show h.rv.1
  ·rintro v rest env s ⟨at_,d7,tk',sv',nt',L',C',fK,M',B,T,jP,ex,rfl,hx,Bn⟩ K hK;have step:∀(s':So) (H5:Nat) (M2:Nat->Mp) (at':Int) (H6:Nat) (vW H7:Int) (H8:Option Int) (L2 C2:List Row) (H9:List (Nat->Mp)) (B2 T2:List Row) (Ia:List Nat),Iu c sv s' dg rev vs (bd C) (ss.map V.ref).reverse rest at' H6 vW H7 H8 L2 C2 H9 M2 B2 T2 Ia->DL s' H5 M2 c.N->wSs (Wn (n+13)) [.iff (.cmp .ne (.call 7 [(.v 3)]) (.comp (.items (.v 18)) [18] (.v 20) [])) [.ret (.cB false)] []] (Kq a dk c.N c.bf x st u7 u8 u9 iL iM dg iy at' [(20,.ref H5)]) K Q bW s':=by
    intro s' H5 M2 at' H6 vW H7 H8 L2 C2 H9 B2 T2 Ia iU hd2;exact shown iU.bs dG hN λa7 s8 f8 Dw=>?_;exact P4 (by rfl) (hd2.bj f8) dG hN λa9 s9 f9 HR=>?_;exact .inl ⟨_,_,Dw.fr f9,HR,Bj _ _,Bj _ _,?_⟩;rw[Kj];have f:=f8.trans f9;show hK _ _ ⟨at',H6,vW,H7,H8,L2,C2,H9,M2,B2,T2,Ia,_,rfl,⟨[_],rfl⟩,⟨iU.rest,iU.at_,iU.bs.bj f,iU.eT,iU.ll,iU.bb,⟨f.k iU.wm.1,iU.wm.2⟩,iU.ur.fr (λa ys e=>f a _ e (by simp)),iU.lR.bj f,iU.f1,iU.f0,⟨f.k iU.rv.1,iU.rv.2⟩⟩⟩
   show wSs (Wn (n+13)) _ (Kq a dk c.N c.bf x st u7 u8 u9 iL iM dg iy at_ (Tactic.up ex 20 v)) K Q bW s;rw[hx.up1];exact aiN (K:=λ_ _ _=>True) Bn dG hN λs' H5 M2 at' H6 vW H7 H8 L2 C2 H9 B2 T2 Ia ev iU hd2=>?_;subst ev;show step s' H5 M2 at' H6 vW H7 H8 L2 C2 H9 B2 T2 Ia iU hd2
  ·rintro env s ⟨at_,d7,tk',sv',nt',L',C',fK,M',B,T,jP,ex,rfl,hx,Bn⟩;have hss:jP=[]:=by
    have:=Bn.rest;have h2:(jP.map V.ref).reverse.length=0:=by rw[<-this];rfl
    simpa using h2
   have Yw:fK=[]:=by
    have:=Bn.lR.1;rw[hss] at this;show eu.mp this.symm
   have hM0:=(Bn.eT.Yn (Bn.eT.ms.mpr Yw)).2;have EY:=Bn.f0 Yw;have bs:=Bn.bs;rw[hM0] at bs;have last:∀ex,wE (Wn (n+13)) (.cmp .eq (.call 7 [(.v 3)]) (.ar .rep (.list [(.list [])]) (.v 2))) (Kq a dk c.N c.bf x st u7 u8 u9 iL iM dg iy at_ ex) Q bW s:=by
    intro ex;exact shown bs dG hN λa7 s8 f8 Dw=>?_;intro c1 iH;intro c2 gI;have g1:Fr [] s8 (put s8 c1 (.lst [])):=.new iH;have g2:Fr [] (put s8 c1 (.lst [])) (put (put s8 c1 (.lst [])) c2 (.lst [.ref c1])):=.new gI;exact X3 au ⟨⟨"0:a,0:a",dG⟩,⟨"a<200,a:8",hN⟩,by simp;show⟨"a<200,a:8",hN⟩⟩ λc3 nE=>?_;have g3:Fr [] (put (put s8 c1 (.lst [])) c2 (.lst [.ref c1])) (put (put (put s8 c1 (.lst [])) c2 (.lst [.ref c1])) c3 (.lst (bH c.N.toNat [V.ref c1]).flatten)):=.new nE;have he:=g3.k (g2.k (au (Y:=s8) (a:=c1) (o:=.lst [])));exact .inl ⟨_,_,Dw.fr ((g1.trans g2).trans g3),.lst au (alC he c.N.toNat),Bj _ _,Bj c.N M0,?_⟩;have:=Kj c.N M0;show Q (.bool (Da.eq (Dm c.N M0) (Dm c.N M0))) _;rw[this];show hq _
   have l:=last ex
   exists bs.bf
   exact O8 bs ?_;rw[decide_eq_false (show ¬ sv'<tk' from by show⟨"!a<b,a=b;1,-1",EY⟩)];show l
 exact sat h.bs.bf ?_;show go _ (h.bs.J9 (rd':=false) (tk':=tk) (sv':=sv)) (.inst h.bs.bf)
inductive LI(a dk:Nat)(c:Cf)(sv:Int)(d0 ra:Nat)(i:Int)(env:Env)(s:So):Prop
 |mk {x st rd tk nt L C M Ms ss j}:Iv c sv s dk d0 ra x st i rd tk nt L C M Ms ss j->((i=0/\env=Bh a dk c.N c.bf x st)\/∃u7 u8 u9 iL iM nP iy,env=HJ a dk c.N c.bf x st u7 u8 u9 iL iM nP iy)->LI a dk c sv d0 ra i env s
def plain_law(n a:Nat)(l:List Int)(ha:a≠884)(hl:l.length<=63):(Wn (n+14)).call 0 [.ref a] (λv _=>v=.bool true) bW (put (put (λ_=>none) 884 (.tup [.str 16])) a (.fL (l.map V.int))):=by
 have Jz:put (put (λ_=>none) 884 (.tup [.str 16])) a (.fL (l.map V.int)) a=some (.fL (l.map V.int)):=au;have Ib:put (put (λ_=>none) 884 (.tup [.str 16])) a (.fL (l.map V.int)) 884=some (.tup [.str 16]):=by rw[ao (aj ha)];show au
 generalize put (put (λ_=>none) 884 (.tup [.str 16])) a (.fL (l.map V.int))=Y at *;exact en (fd:=f0) rfl ?_;exact alN Jz (by simp;unfold big;show⟨"A>100000,A.63",hl⟩) λc1 iH=>?_;generalize q1:put Y c1 (.lst (l.map V.int))=t1;have p1:t1 c1=some (.lst (l.map V.int)):=q1 ▸ au;have h1:t1 884=some (.tup [.str 16]):=q1 ▸ (Fr.new iH).k Ib
 exists p1
 exact⟨by decide,by simp;unfold big;show⟨"A>100000,A.63",hl⟩,λd0 lF=>?_⟩;generalize q2:put t1 d0 (.lst ((l.map V.int).take (60:Int).toNat))=t2;have p2:t2 d0=some (.lst ((l.take 60).map V.int)):=by rw[List.map_take,<-q2];show au
 have h2:t2 884=some (.tup [.str 16]):=q2 ▸ (Fr.new lF).k h1;intro dk Kr;have Dy:d0≠dk:=λe=>by rw[<-e,p2] at Kr;cases Kr
 generalize q3:put t2 dk (.lst [.ref d0,.int 0])=s1;have deck:Dk s1 dk d0 0:=⟨⟨l.take 60,q3 ▸ au,by rw[<-q3,ao Dy];show p2,by simp;show⟨"A.60,A.60",fe _ _⟩,Dy⟩,⟨"0:0"⟩,⟨"0:1000"⟩⟩;have Ic:s1 884=some (.tup [.str 16]):=q3 ▸ (Fr.new Kr).k h2;clear Jz Ib iH q1 p1 h1 lF q2 p2 h2 Kr q3 Dy;exact draw deck ⟨"0<1000"⟩ (by decide) λN s2 n0 n1 Bo o2=>?_;have Qw:s2 884=some (.tup [.str 16]):=by
  rw[o2 884 λe=>by
   obtain⟨_,q,_⟩:=deck.d
   nomatch e,q,Ic]
  show Ic
 exact ahD n0 ⟨"a:8,a<9",n1⟩ Qw λs3 c ra tk eN nM f3 nw=>?_;have Bp:=Bo.new f3;obtain⟨dl,dq1,dq2,_⟩:=Bo.d;have Ie:c.ce≠dk:=aj (nw _ _ dq1).1;have Qx:d0≠ra:=(nw _ _ dq2).2;subst eN;exact⟨⟨by decide,by decide,bO (by decide) n0,by unfold big;show⟨"a<'100000,a<9",n1⟩⟩,?_⟩;exact P1 (λi acc s=>∃as:List Nat,acc=as.map V.ref/\(as.length:Int)=i/\(∀(k:Nat) b,as[k]?=some b->∃es ep,s b=some (.cu es ep)/\Dc es (M0 k))/\Fr [] s3 s) 0 c.N n0 ?_ ?_ _ _ ⟨[],rfl,rfl,by simp,.refl⟩
 ·rintro i acc s i0 i1 ⟨as,ea,el,hd,fs⟩ K hK;intro ep b hb;exact hK _ _ ⟨as++[b],by rw[ea];simp,by simp;show⟨"'A=a,'A=a;1,1;1,-1",el⟩,λk b' bS=>?_,fs.trans (.new hb)⟩;rcases dq k as.length with q | q
  ·rw[eY q] at bS;obtain⟨es,gy,h1,h2⟩:=hd k b' bS;show⟨es,gy,by rw[ao λe=>by nomatch e,hb,h1];show h1,h2⟩
  ·rw[fS q] at bS;have:b'=b:=by
    rcases ph (k-as.length) with e | e
    ·rw[e] at bS;simpa using bS.symm
    ·nomatch di (by simp;show⟨"1.A,0>A",e⟩),bS
   rw[this];show⟨[],ep,au,Dc.nil⟩
 ·rintro acc s4 ⟨as,ea,el,hd,fs⟩;subst ea;exact⟨by simp;unfold big;show⟨"A>100000,a<9,'A=a",n1,el⟩,λx hx=>?_⟩;generalize q5:put s4 x (.lst (as.map V.ref))=s5;have f5:Fr [] s4 s5:=q5 ▸ .new hx;have Yx:DL s5 x M0 c.N:=⟨as,q5 ▸ au,⟨"A~B,'A=a,'B=a;1,1,-1;1,-1,1",el,aH ⟨"0:a,0:a",n0⟩⟩,λk b hb=>by
   obtain⟨es,ep,h1,h2⟩:=hd k b hb;show⟨es,ep,f5.k h1,h2⟩⟩
  obtain⟨xs3,Bk,_⟩:=nM.rows;have xra:x≠ra:=λe=>by nomatch e,fs.k Bk,hx
  have Qy:=(nM.bj fs).bj f5;have Bq:=(Bp.new fs).new f5;clear hd hx fs q5 f5 nM Bp Bk;intro st w7;generalize q6:put s5 st (.lst [])=s6;have f6:Fr [] s5 s6:=q6 ▸ .new w7;have Qz:st≠ra:=λe=>by
   obtain⟨ys,hy,_⟩:=Qy.rows
   nomatch e,hy,w7
  have Ih:s6 st=some (.lst (([]:List Nat).map V.ref)):=q6 ▸ au;have qG:=Qy.bj f6;have Br:=Bq.new f6;have Kp:=Yx.bj f6;clear q6 w7 Qy Bq Yx f6;intro w hw;generalize q7:put s6 w (.tup [.ref c.bf,.ref x,.ref st])=s7;have f7:Fr [] s6 s7:=q7 ▸ .new hw;have p7:s7 w=some (.tup [.ref c.bf,.ref x,.ref st]):=q7 ▸ au;have EX:=qG.bj f7;have qH:=Br.new f7;have Qm:=Kp.bj f7;have Ii:=f7.k Ih;clear q7 hw Ih qG Br Kp f7
  exists p7
  exact⟨rfl,?_⟩;exact draw qH ⟨"0+1<1000"⟩ (by decide) λr s8 r0 r1 Ij o8=>?_;have fD:=xR o8;have iv:Iv c tk s8 dk d0 ra x st 0 false tk none [] [] M0 [] [] (0+1+1):=⟨EX.oC fD qH Ie,.nil,.inl rfl,⟨λ_=>⟨rfl,rfl⟩,λe=>absurd rfl e⟩,Ij,⟨"0+1+1:2+10*0"⟩,Qx,Ie,⟨xra,Qm.oC fD qH⟩,⟨fD _ _ Ii (ER qH Ii),Qz,rfl,by simp⟩,by simp⟩;show((-big:Int)<=0/\(0:Int)<(big:Int)/\(-big:Int)<=2+r/\2+r<(big:Int))/\loop _ (λ_=>True) _ (rE 0 (2+r)) (Bh a dk c.N c.bf x st) s8;exact⟨⟨by decide,by decide,bO (b:=0) (by decide) ⟨"0:2+a,0:a",r0⟩,by unfold big;show⟨"2+a<'100000,a<7",r1⟩⟩,?_⟩;exact Ov (LI a dk c tk d0 ra) 0 (2+r) ⟨"0:2+a,0:a",r0⟩ ?_ ?_ _ _ (.mk iv (.inl ⟨rfl,rfl⟩))
  ·rintro i env s i0 i1 ⟨QB,aE⟩ K hK;show turn QB i0 ⟨"a<9,b<7,a<2+b",r1,i1⟩ n0 ⟨"a:8,a<9",n1⟩ (aE.imp (λe=>e.2) id) λY' x' jw rd' ru nt' L' C' M' fK jP j' QC u7 u8 u9 iL iM nP iy=>hK _ _ (.mk QC (.inr ⟨_,_,_,_,_,_,_,rfl⟩))
  ·rintro env s ⟨QB,aE⟩;rcases aE with⟨e,_⟩ | ⟨u7,u8,u9,iL,iM,nP,iy,rfl⟩
   ·show fO ⟨"_,2+a=0,0:a",e,r0⟩
   ·show alV QB ⟨"2+a:9,a<7",r1⟩ n0 ⟨"a:8,a<9",n1⟩ λs=>rfl
end Tactic
theorem PySem.Challenge.cw_on0074_01_holds : PySem.Challenge.rw_on0074_01.Holds :=
  Lh.Tactic.head (Tactic.join (K := 14) (by decide) fun a l h1 h2 => Tactic.plain_law 0 a l h1 h2)
