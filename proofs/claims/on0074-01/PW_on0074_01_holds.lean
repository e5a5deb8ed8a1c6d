import PyProof.Rows.All
import Wide.All
import OpenK.AllK
import Wide.FinOn
import PySem.Challenge.RW_on0074_01
set_option Elab.async false
set_option compiler.extract_closed false
set_option compiler.reuse false
set_option compiler.small 0
set_option bootstrap.genMatcherCode false
set_option genSizeOf false
set_option genInjectivity false
set_option genCtorIdx false
set_option linter.unusedVariables false
set_option maxRecDepth 100000
set_option maxHeartbeats 0
namespace Tactic
abbrev Sx:=Lean.Syntax
def zK(p:Lean.Name)(k:String)(l:List Sx):Sx:=.node .none (.str p k) l.toArray
def zT(k : String)(l : List Sx) : Sx:=zK `Lean.Parser.Tactic k l
def zM(k : String)(l : List Sx) : Sx:=zK `Lean.Parser.Term k l
def zA(s:String):Sx:=.atom .none s
def zN(l : List Sx) : Sx:=.node .none `null l.toArray
def z1(k:String)(t:Sx):Sx:=zT k [zA k,t]
def zL(k:String)(t:Sx):Sx:=z1 k (zN [t])
def zI(s:String):Sx:=Lean.mkIdent s.toName
def ap(f:String)(l:List Sx):Sx:=if l.isEmpty then zI f else zM "app" [zI f,zN l]
def Ax(l:List Sx):Sx:=l.foldr (λx r=>ap "List.cons" [x,r]) (zI "List.nil")
def zQ(l:List Sx):Sx:=zT "tacticSeq" [zT "tacticSeq1Indented" [zN (l.intersperse (zA ";"))]]
def tS(l:List Sx):Sx:=zT "paren" [zA "(",zQ l,zA ")"]
def tF(l:List Sx):Sx:=z1 "first" (zN (l.map λt=>.node .none `group #[zA "|",zQ [t]]))
def tY(t:Sx):Sx:=zT "tacticTry_" [zA "try",zQ [t]]
def tE(t:Sx):Sx:=z1 "exact" t
def tR(t:Sx):Sx:=z1 "refine" t
def tU(t:Sx):Sx:=zL "subst" t
def tI(t:Sx):Sx:=zL "intro" t
def tC(t:Sx):Sx:=zL "clear" t
def tX:Sx:=z1 "fail" (zN [])
def zH:Sx:=zM "hole" [zA "_"]
def zq:Sx:=zM "syntheticHole" [zA "?",zA "_"]
def zB(l:List Sx)(b:Sx):Sx:=zM "fun" [zA "fun",zM "basicFun" [zN l,zN [],zA "=>",b]]
def zU(t:Sx):Sx:=zM "paren" [zM "hygienicLParen" [zA "(",.node .none `hygieneInfo #[zI ""]],t,zA ")"]
def zD(t:Sx)(e:Sx):Sx:=zM "letDecl" [zM "letIdDecl" [zM "letId" [t],zN [],zN [],zA ":=",e]]
def Iy(h e:Sx):Sx:=z1 "replace" (zD h e)
def tO(p t:Sx):Sx:=zT "obtain" [zA "obtain",zN [p],zN [],zN [zA ":=",zN [t]]]
def tG(t:Sx):Sx:=zN [zT "elimTarget" [zN [],zU t]]
def tA(t p:Sx):Sx:=zT "rcases" [zA "rcases",tG t,zN [zA "with",p]]
def tW(r:List Sx)(l:List Sx):Sx:=zT "rewriteSeq" [zA "rewrite",zT "optConfig" [zN []],zT "rwRuleSeq" [zA "[",zN (r.intersperse (zA ",")),zA "]"],zN l]
def tZ:Sx:=tY (zT "withReducible" [zA "with_reducible",zQ [zT "tacticRfl" [zA "rfl"]]])
def mP(l:List Sx):Sx:=zT "rcasesPatMed" [zN l]
def pU(s : Sx) : Bool:=s.isIdent && s.getId == `rfl
def kO(s : Sx)(k : String) : Bool:=s.isOfKind (.str `Lean.Parser.Tactic.rcasesPat k)
def Ay(h:Sx)(k:String):Sx:=zI ((if h.isIdent then h.getId.toString else "z")++"_"++k)
def Iz(l : List Sx) : Sx:=mP [zK `Lean.Parser.Tactic.rcasesPat "tuple" [zA "⟨",zN (l.intersperse (zA ",")),zA "⟩"]]
def IA(h z:Sx):Nat->Bool->List Sx->List Sx × List Sx × List Sx
 | _,_,[]=>([],[],[])
 | k,more,e::es =>
  if more || es.isEmpty then
   let m:=e[0][0]
   let p:=m[0]
   let o:=m.getNumArgs == 1
   let n:=o && kO p "one"
   let t:=Ay h (toString k)
   let (i,b,mo):=if n && !pU p[0] then (if p[0].getId == h.getId then z else p[0],[],more)
    else if o && kO p "ignore" then (zH,[],more)
    else (t,[if n then tU t else tO e[0] t],more && (e.find? pU).isNone)
   let (x,y,w):=IA h z (k + 1) mo es
   (i::x,b++y,w)
  else ([],[],e::es)
def alt:Sx->Sx->List Sx->Sx
 | _,_,[]=>tX
 | h,c,m::ms =>
  let z:=zI "z_o"
  if (m.find? λs=>s.isOfKind `Lean.Parser.Tactic.rcasesPatMed && s[0].getNumArgs != 1).isSome then tX else
  let f:=tS (c::(if kO m "one" && !pU m[0] then [tI m[0]] else tI z::(if pU m[0] then [tU z] else if kO m "ignore" then [] else [tO (mP [m]) z])))
  if ms.isEmpty then f else
  tS [tR (ap "Or.elim" [h,zq,zq]),f,zT "rotateLeft" [zA "rotate_left",zN []],if ms.length == 1 then alt h c ms else tS [c,tI z,alt z (tC z) ms],zT "rotateRight" [zA "rotate_right",zN []]]
def IB(h p:Sx):Sx :=
 let q:=p[0]
 let es:=q[0][1].getSepArgs.toList
 let c:=if h.isIdent then tY (tC h) else tS []
 if q.getNumArgs != 1 then alt h c q.getSepArgs.toList
 else if !kO q[0] "tuple" || es.length < 2 then tX
 else
  let z : Sx:=Lean.mkIdent (Lean.addMacroScope `Tactic `z 1)
  let (ids,post,rest):=IA h z 0 true es
  let r:=Ay h "r"
  let (ids,post):=if rest.isEmpty then (ids,post) else (ids++[r],post++[tO (Iz rest) r])
  let n:=ids.length
  let a:=tF ((List.range n).map λd=>tR (ap ("Tactic.x_"++toString (n - 1 - d)++toString (d + 1)) [h,zB ids zq]))
  tS (a::c::(match ids.dropWhile λx=>x.getId != z.getId with
  | []=>post
  | _::l=>zT "renameI" [zA "rename_i",zN ((h::l.filter λx=>!x.isIdent).map λx=>.node .none `Lean.binderIdent #[x])]::post))
def IC(h p:Sx)(f:String):Sx :=
 let q:=p[0]
 let es:=q[0][1].getSepArgs.toList
 match es with
 | e::er =>
  let m:=e[0][0][0]
  if q.getNumArgs != 1 || !kO q[0] "tuple" || er.length < 2 || e[1].getNumArgs != 0 || e[0][0].getNumArgs != 1 then tX else
  let b:=Ay h "p"
  let r:=Ay h "q"
  let t:=if kO m "one" && !pU m[0] then m[0] else b
  tS ([tR (ap f [h,zB [t,r] zq])]++(if h.isIdent && t.getId != h.getId then [tY (tC h)] else [])++(if kO m "one" then (if pU m[0] then [tU b] else []) else if kO m "ignore" then [] else [tO e[0] b])++[tO (Iz er) r])
 | []=>tX
def IE:Nat->List Sx->List Sx
 | _,[]=>[]
 | k,p::ps =>
  let q:=p[0]
  let o:=kO q "one"
  let t:=if o && !pU q[0] then q[0] else if kO q "ignore" then zH else zI ("z_i"++toString k)
  tI t::(if o && pU q[0] then [tU t] else if kO q "clear" then [tC t] else if o || kO q "ignore" then [] else [tO (mP [q]) t])++IE (k + 1) ps
def IG(h:Sx):Sx :=
 let e:=ap "Eq.refl" [zI "false"]
 let s:=tU h
 let z:=zI "z_e"
 let y:=zI "z_f"
 let i:=λl=>zT "injection" [zA "injection",h,zN l]
 let w:=λl=>i [zA "with",zN l]
 let j:=tF [tS [w [z,y],tU z,tU y],tS [w [z],tU z]]
 let r:=λf=>Iy h (ap f [h])
 tF [tS [i [],zT "done" [zA "done"]],tE (ap "Tactic.sO" [e,h]),tE (ap "Tactic.sV" [e,h]),s,tS [r "Tactic.sL",s],tS [r "Tactic.sI",tF [s,j]],j,zT "cases" [zA "cases",tG h,zN [],zN []]]
def cls:Sx :=
 let e:=ap "Eq.refl" [zI "false"]
 let u:=zH
 let f:=λt=>zB [u] t
 let d:=ap "List.Mem.head" [u]
 let l:=λt=>ap "List.Mem.tail" [u,t]
 let n:=ap "Tactic.nT" [e]
 let m:=ap "Tactic.nU" [e]
 let r:=λt=>ap "Or.inr" [t]
 let x:=zI "rfl"
 let i:=ap "Or.inl" [x]
 tF (([zI "List.not_mem_nil",n,f n,ap "Tactic.nV" [e],m,f m,d,l d,l (l d),l (l (l d)),ap "List.mem_append_right" [u,d],ap "List.append_cons" [u,u,u],zI "Tactic.gE",i,r i,r x,r (r i),f (f (ap "Tactic.v9" [u])),ap "Nat.zero_lt_succ" [u],ap "Nat.succ_ne_zero" [u],ap "List.cons_ne_nil" [u,u]].map tE)++[zT "decide" [zA "decide",zT "optConfig" [zN []]],zT "simp" [zA "simp",zT "optConfig" [zN []],zN [],zN [],zN [zA "[",zN [],zA "]"],zN []]])
def zn(k:Nat):Sx:=Lean.Syntax.mkNatLit k
def pX:Nat->Bool->Option Sx->List Char->Sx × List Char
 | n + 1,true,_,c::r =>
  if c == '(' then (pX n false none r).map id (·.tail)
  else if c == '\'' then (pX n true none r).map (λx=>ap "Tactic.Lx.t" [x]) id
  else if c.isDigit then
   let k:=zn ((c::r).takeWhile (·.isDigit) |>.foldl (λa d=>a * 10 + (d.toNat - 48)) 0)
   let r:=r.dropWhile (·.isDigit)
   if r.head? == some '*' then (pX n true none r.tail).map (λx=>ap "Tactic.Lx.m" [k,x]) id
   else (ap "Tactic.Lx.c" [k],r)
  else (ap "Tactic.Lx.v" [zn (c.toNat - if c.isLower then 97 else 65)],r)
 | n + 1,false,none,cs =>
  let (x,r):=pX n true none cs
  pX n false (some x) r
 | n + 1,false,some x,c::r =>
  if c == '+' || c == '-' then
   let (y,r):=pX n true none r
   pX n false (some (ap (if c == '+' then "Tactic.Lx.a" else "Tactic.Lx.s") [x,y])) r
  else (x,c::r)
 | _,_,x,r=>(x.getD zH,r)
def pC(s:String):Option Bool × List Sx × Sx :=
 if s == "_" then (none,[],zI "Tactic.Lc.ff") else
 let cs:=s.toList
 let neg:=cs.head? == some '!'
 let (x,r):=pX 99 false none (if neg then cs.tail else cs)
 let (y,_):=pX 99 false none r.tail
 let k:=([':','<','=','.','>','~'].findIdx? λc=>r.head? == some c).getD 0
 let nat:=decide (3 <= k)
 let k:=k % 3 + if neg then 3 else 0
 (if k == 2 then some nat else none,[x,y],ap (if nat then "Tactic.Lc.j" else "Tactic.Lc.i") [zn k,x,y])
def pK(n:Nat)(s:Option String):Sx:=match s with
 | none=>Ax (List.replicate n (zn 1))
 | some s=>Ax ((s.splitOn ",").map λw=>if w.startsWith "-" then ap "Int.negSucc" [zn (((w.splitOn "-").getLast!).toNat! - 1)] else zn w.toNat!)
def pS(s:String)(ts:List Sx):Sx :=
 let ps:=s.splitOn ";"
 let p:=ps.head!
 let cs:=(p.splitOn ",").map pC
 let num:=λ(z : Nat) (f : Char->Bool)=>Ax (List.replicate (((p.toList.filter f).map λc=>c.toNat - z).foldl max 0) zH)
 let l:=num 96 (·.isLower)
 let w:=num 64 (·.isUpper)
 let hs:=Ax (cs.tail.map (·.2.2))
 let k1:=pK cs.length ps[1]?
 let r:=ap "Eq.refl" [zI "true"]
 match cs.head! with
 | (some nat,xy,_)=>ap (if nat then "Tactic.ln2" else "Tactic.le2") ([l,w]++xy++[hs,k1,pK cs.length ps[2]?,r,r]++ts)
 | (none,_,g)=>ap "Tactic.li" ([l,w,g,hs,k1,r]++ts)
def qs(s : Sx) : Bool:=(s.find? (·.isOfKind `Lean.Parser.Term.syntheticHole)).isSome
def QH(rs:List Sx):Sx :=
 tS (rs.map (λr =>
  let e:=r[1]
  let w:=tW [r] []
  if qs e then w else
  let g:=λe=>tR (ap (if r[0].getNumArgs == 0 then "Tactic.rwE" else "Tactic.rwB") [e,zq])
  let d:=e[0].getId
  let i:=if d == `if_pos then ["Tactic.wpT","Tactic.aqV"] else if d == `if_neg then ["Tactic.QL","Tactic.aqU"] else []
  tF (i.map (λn=>tR (ap n [e[1][0],zq]))++[g e,g (ap "propext" [e]),w]))++[tZ])
def II(h:Sx)(l:Sx)(rs:List Sx):Sx :=
 let e:=rs.foldl (λt r=>zM "subst" [if r[0].getNumArgs == 0 then r[1] else ap "Eq.symm" [r[1]],zA "▸",zN [t]]) h
 tS [tF [Iy h (zU e),tW rs [l]],tZ]
def QI(es:List Sx):Sx :=
 let h:=es.getLast!
 let z:=ap "Eq.refl" [zI "false"]
 let f:=λn l=>tE (ap n l)
 let c:=zI "z_c"
 let g:=λn=>[tS [zT "tacticHave__" [zA "have",zM "letConfig" [zN []],zD c (ap n es)],tY (tC h),tU c]]
 tF ((if es.length == 2 then [f "Tactic.QJ" (z::es),f "Tactic.CN" es,f "Tactic.CN" es.reverse]++g "Tactic.QK" else if es.length == 3 then [f "Tactic.sT2" (z::es),f "Tactic.sS2" es,f "Tactic.sS3" es]++g "Tactic.sX2" else [])
  ++ [tS [II h (zT "location" [zA "at",zT "locationHyp" [zN [h],zN []]]) (es.dropLast.map λt=>zT "rwRule" [zN [],t]),IG h]])
def zzA(n:String)(l:List Sx):Sx:=zU (zM "app" [zM "dotIdent" [zA ".",zI n],zN l])
def zzV(n:Sx):Sx:=zzA "v" [n]
def zO(b:Bool)(s:Sx):Lean.MacroM Sx:=if b then pure s else Lean.Macro.throwUnsupported
def ss(s:Sx):List Sx:=s.getSepArgs.toList
end Tactic
local macro_rules (kind:=Lean.Parser.Command.declaration)
 | s =>
  let d:=s[1]
  match d[0] with
  | .atom (.original ..) v =>
   let d:=if v == "def" && d[3][1].isOfKind `Lean.Parser.Term.byTactic then Tactic.zK `Lean.Parser.Command "theorem" [d[0],d[1],Tactic.zK `Lean.Parser.Command "declSig" [d[2][0],d[2][1][0]],d[3]] else d
   let s:=s.setArg 1 (d.setArg 0 (Tactic.zA v))
   pure (if !d.isOfKind `Lean.Parser.Command.theorem && (v == "def" || v == "abbrev") then s.setArg 0 (s[0].setArg 4 (Tactic.zN [.node .none `Lean.Parser.Command.noncomputable #[Tactic.zA "noncomputable"]])) else s)
  | _=>Lean.Macro.throwUnsupported
namespace Tactic
set_option genCtorIdx true in
inductive Bi where
 |len | lst | dict | sorted | abs | min | max
set_option genCtorIdx true in
inductive Lm where
 |append | extend | pop
set_option genCtorIdx true in
inductive Cm where
 |lt | le | gt | ge | eq | ne | is | aX | og
set_option genCtorIdx true in
inductive Ar where
 |add | sub | mul | fdiv | mod | cat | rep
inductive E where
 |stop
 |cN
 |cB (b:Bool)
 |cI (i:Int)
 |cS (k:Nat)
 |v (x:Nat)
 |glob (a:Nat)
 |attr (e:E) (k:Nat)
 |ar (o:Ar) (a b:E)
 |not (e:E)
 |fG (c a b:E)
 |and (a b:E)
 |or (a b:E)
 |cmp (o:Cm) (a b:E)
 |gM (o p:Cm) (a b c:E)
 |list (l:List E)
 |tup (l:List E)
 |dH
 |idx (e i:E)
 |gN (e:E) (lo hi:Option E)
 |jO (e:E)
 |call (f:Nat) (l:List E)
 |new (c:Nat) (l:List E)
 |aJ (e:E) (k:Nat) (l:List E)
 |bi (b:Bi) (l:List E)
 |lm (m:Lm) (e:E) (l:List E)
 |items (e:E)
 |isTrue (e:E)
 |ru (e:E)
 |dI (f:Nat) (l:List E) (ai:List Nat) (b:E) (aq:List Nat)
 |gy (x:Nat) (l:List E)
 |comp (e:E) (t:List Nat) (src:E) (ifs:List E)
 |jq (l:List E)
set_option genInjectivity true in
inductive V where
 |none
 |bool (b:Bool)
 |int (i:Int)
 |str (k:Nat)
 |ref (a:Nat)
 |bA (ai:List Nat) (b:E) (aq:List (Nat×V))
set_option genInjectivity true in
inductive O where
 |inst (c:Nat) (fs:List (Nat×V))
 |lst (xs:List V)
 |cO (xs:List V)
 |tup (xs:List V)
 |aP (es:List (Int×V)) (ep:Nat)
def V.ctorIdx(v:V):Nat:=(by cases v with | none=>exact 0 | bool=>exact 1 | int=>exact 2 | str=>exact 3 | ref=>exact 4 | bA=>exact 5)
def O.ctorIdx(v:O):Nat:=(by cases v with | inst=>exact 0 | lst=>exact 1 | cO=>exact 2 | tup=>exact 3 | aP=>exact 4)
abbrev So:=Nat->Option O
abbrev Env:=List (Nat×V)
def put(s:So)(a:Nat)(o:O):So:=λb=>match Nat.beq b a with
 |true=>some o
 |false=>s b
def lk:List (Nat×V)->Nat->Option V
 | [],_=>Option.none
 |(k,v)::r,x=>match Nat.beq k x with
  |true=>some v
  |false=>lk r x
def up:List (Nat×V)->Nat->V->List (Nat×V)
 | [],x,v=>[(x,v)]
 |(k,u)::r,x,v=>match Nat.beq k x with
  |true=>(k,v)::r
  |false=>(k,u)::up r x v
inductive Tg where
 |v (x:Nat)
 |attr (e:E) (k:Nat)
 |idx (e i:E)
 |gN (e lo hi:E)
inductive Sm where
 |stop
 |asg (t:Tg) (e:E)
 |gO (ts:List Tg) (e:E)
 |ex (e:E)
 |iff (c:E) (a b:List Sm)
 |fH (c:E) (b:List Sm)
 |aS (t:List Nat) (src:E) (b:List Sm)
 |ret (e:E)
 |raise (k:Nat) (e:E)
 |jP (b:List Sm) (x:Nat)
def Sm.ctorIdx(v:Sm):Nat:=(by cases v with | stop=>exact 0 | asg=>exact 1 | gO=>exact 2 | ex=>exact 3 | iff=>exact 4 | fH=>exact 5 | aS=>exact 6 | ret=>exact 7 | raise=>exact 8 | jP=>exact 9)
structure Fd where
 ai:List Nat
 gA:List V
 body:List Sm
end Tactic
namespace Tactic
variable{A C:Prop}{b:Bool}{y:Nat}{M:Model}{s:Shared}{l:List Int}{w:List Nat}
@[elab_as_elim] theorem rwE{α}{a b:α}{p:α->Prop}(h:a = b)(k:p b):p a:=by subst h; exact k
@[elab_as_elim] theorem rwB{α}{a b:α}{p:α->Prop}(h:b = a)(k:p b):p a:=by subst h; exact k
theorem x_12{α:Sort _}{A B:α->Prop}{G:Prop}(h:∃ a,A a/\B a)(k:∀ a,A a->B a->G):G:=h.elim λa h=>k a h.1 h.2
theorem x_02{B:Prop}{G:Prop}(h:A/\B)(k:A->B->G):G:=k h.1 h.2
theorem x_11{α:Sort _}{A:α->Prop}{G:Prop}(h:∃ a,A a)(k:∀ a,A a->G):G:=h.elim λa h=>k a h
theorem x_03{B:Prop}{G:Prop}(h:A/\B/\C)(k:A->B->C->G):G:=k h.1 h.2.1 h.2.2
theorem x_13{α:Sort _}{A B C:α->Prop}{G:Prop}(h:∃ a,A a/\B a/\C a)(k:∀ a,A a->B a->C a->G):G:=h.elim λa h=>k a h.1 h.2.1 h.2.2
theorem x_22{α:Sort _}{β:Sort _}{A B:α->β->Prop}{G:Prop}(h:∃ a b,A a b/\B a b)(k:∀ a b,A a b->B a b->G):G:=h.elim λa h=>h.elim λb h=>k a b h.1 h.2
theorem x_21{α:Sort _}{β:Sort _}{A:α->β->Prop}{G:Prop}(h:∃ a b,A a b)(k:∀ a b,A a b->G):G:=h.elim λa h=>h.elim λb h=>k a b h
theorem x_33{α:Sort _}{β:Sort _}{γ:Sort _}{A B C:α->β->γ->Prop}{G:Prop}(h:∃ a b c,A a b c/\B a b c/\C a b c)(k:∀ a b c,A a b c->B a b c->C a b c->G):G:=h.elim λa h=>h.elim λb h=>h.elim λc h=>k a b c h.1 h.2.1 h.2.2
theorem x_42{α:Sort _}{β:Sort _}{γ:Sort _}{δ:Sort _}{A B:α->β->γ->δ->Prop}{G:Prop}(h:∃ a b c d,A a b c d/\B a b c d)(k:∀ a b c d,A a b c d->B a b c d->G):G:=h.elim λa h=>h.elim λb h=>h.elim λc h=>h.elim λd h=>k a b c d h.1 h.2
theorem x_04{B D:Prop}{G:Prop}(h:A/\B/\C/\D)(k:A->B->C->D->G):G:=k h.1 h.2.1 h.2.2.1 h.2.2.2
theorem x_32{α:Sort _}{β:Sort _}{γ:Sort _}{A B:α->β->γ->Prop}{G:Prop}(h:∃ a b c,A a b c/\B a b c)(k:∀ a b c,A a b c->B a b c->G):G:=h.elim λa h=>h.elim λb h=>h.elim λc h=>k a b c h.1 h.2
theorem x_43{α:Sort _}{β:Sort _}{γ:Sort _}{δ:Sort _}{A B C:α->β->γ->δ->Prop}{G:Prop}(h:∃ a b c d,A a b c d/\B a b c d/\C a b c d)(k:∀ a b c d,A a b c d->B a b c d->C a b c d->G):G:=h.elim λa h=>h.elim λb h=>h.elim λc h=>h.elim λd h=>k a b c d h.1 h.2.1 h.2.2
theorem x_41{α:Sort _}{β:Sort _}{γ:Sort _}{δ:Sort _}{A:α->β->γ->δ->Prop}{G:Prop}(h:∃ a b c d,A a b c d)(k:∀ a b c d,A a b c d->G):G:=h.elim λa h=>h.elim λb h=>h.elim λc h=>h.elim λd h=>k a b c d h
theorem x_51{α:Sort _}{β:Sort _}{γ:Sort _}{δ:Sort _}{ε:Sort _}{A:α->β->γ->δ->ε->Prop}{G:Prop}(h:∃ a b c d e,A a b c d e)(k:∀ a b c d e,A a b c d e->G):G:=h.elim λa h=>h.elim λb h=>h.elim λc h=>h.elim λd h=>h.elim λe h=>k a b c d e h
theorem x_44{α:Sort _}{β:Sort _}{γ:Sort _}{δ:Sort _}{A B C D:α->β->γ->δ->Prop}{G:Prop}(h:∃ a b c d,A a b c d/\B a b c d/\C a b c d/\D a b c d)(k:∀ a b c d,A a b c d->B a b c d->C a b c d->D a b c d->G):G:=h.elim λa h=>h.elim λb h=>h.elim λc h=>h.elim λd h=>k a b c d h.1 h.2.1 h.2.2.1 h.2.2.2
theorem x_62{α:Sort _}{β:Sort _}{γ:Sort _}{δ:Sort _}{ε:Sort _}{ζ:Sort _}{A B:α->β->γ->δ->ε->ζ->Prop}{G:Prop}(h:∃ a b c d e f,A a b c d e f/\B a b c d e f)(k:∀ a b c d e f,A a b c d e f->B a b c d e f->G):G:=h.elim λa h=>h.elim λb h=>h.elim λc h=>h.elim λd h=>h.elim λe h=>h.elim λf h=>k a b c d e f h.1 h.2
theorem x_34{α:Sort _}{β:Sort _}{γ:Sort _}{A B C D:α->β->γ->Prop}{G:Prop}(h:∃ a b c,A a b c/\B a b c/\C a b c/\D a b c)(k:∀ a b c,A a b c->B a b c->C a b c->D a b c->G):G:=h.elim λa h=>h.elim λb h=>h.elim λc h=>k a b c h.1 h.2.1 h.2.2.1 h.2.2.2
theorem x_25{α:Sort _}{β:Sort _}{A B C D E:α->β->Prop}{G:Prop}(h:∃ a b,A a b/\B a b/\C a b/\D a b/\E a b)(k:∀ a b,A a b->B a b->C a b->D a b->E a b->G):G:=h.elim λa h=>h.elim λb h=>k a b h.1 h.2.1 h.2.2.1 h.2.2.2.1 h.2.2.2.2
theorem x_14{α:Sort _}{A B C D:α->Prop}{G:Prop}(h:∃ a,A a/\B a/\C a/\D a)(k:∀ a,A a->B a->C a->D a->G):G:=h.elim λa h=>k a h.1 h.2.1 h.2.2.1 h.2.2.2
theorem x_08{B D E F H I:Prop}{G:Prop}(h:A/\B/\C/\D/\E/\F/\H/\I)(k:A->B->C->D->E->F->H->I->G):G:=k h.1 h.2.1 h.2.2.1 h.2.2.2.1 h.2.2.2.2.1 h.2.2.2.2.2.1 h.2.2.2.2.2.2.1 h.2.2.2.2.2.2.2
theorem x_06{B D E F:Prop}{G:Prop}(h:A/\B/\C/\D/\E/\F)(k:A->B->C->D->E->F->G):G:=k h.1 h.2.1 h.2.2.1 h.2.2.2.1 h.2.2.2.2.1 h.2.2.2.2.2
theorem x_24{α:Sort _}{β:Sort _}{A B C D:α->β->Prop}{G:Prop}(h:∃ a b,A a b/\B a b/\C a b/\D a b)(k:∀ a b,A a b->B a b->C a b->D a b->G):G:=h.elim λa h=>h.elim λb h=>k a b h.1 h.2.1 h.2.2.1 h.2.2.2
theorem x_15{α:Sort _}{A B C D E:α->Prop}{G:Prop}(h:∃ a,A a/\B a/\C a/\D a/\E a)(k:∀ a,A a->B a->C a->D a->E a->G):G:=h.elim λa h=>k a h.1 h.2.1 h.2.2.1 h.2.2.2.1 h.2.2.2.2
theorem x_23{α:Sort _}{β:Sort _}{A B C:α->β->Prop}{G:Prop}(h:∃ a b,A a b/\B a b/\C a b)(k:∀ a b,A a b->B a b->C a b->G):G:=h.elim λa h=>h.elim λb h=>k a b h.1 h.2.1 h.2.2
theorem x_52{α:Sort _}{β:Sort _}{γ:Sort _}{δ:Sort _}{ε:Sort _}{A B:α->β->γ->δ->ε->Prop}{G:Prop}(h:∃ a b c d e,A a b c d e/\B a b c d e)(k:∀ a b c d e,A a b c d e->B a b c d e->G):G:=h.elim λa h=>h.elim λb h=>h.elim λc h=>h.elim λd h=>h.elim λe h=>k a b c d e h.1 h.2
theorem x_31{α:Sort _}{β:Sort _}{γ:Sort _}{A:α->β->γ->Prop}{G:Prop}(h:∃ a b c,A a b c)(k:∀ a b c,A a b c->G):G:=h.elim λa h=>h.elim λb h=>h.elim λc h=>k a b c h
theorem sL{a b:List V}(h:some (O.lst a) = some (O.lst b)):a = b:=by injection h with h; injection h with h
theorem sI{α}{a b:α}(h:some a = some b):a = b:=by injection h with h
theorem sN{α}{f:α->Nat}{a b:α}{G:Prop}(e:Nat.beq (f a) (f b) = false)(h:some a = some b):G:=by injection h with h; subst h; rw [Nat.beq_refl] at e; cases e
def O.tag:O->Nat
 | .inst c _=>c + 5
 | .lst _=>0
 | .cO _=>1
 | .tup _=>2
 | .aP _ _=>3
theorem sO{a b:O}{G:Prop}(e:Nat.beq a.tag b.tag = false)(h:some a = some b):G:=sN e h
theorem QJ{x:Option O}{a b:O}{G:Prop}(e:Nat.beq a.tag b.tag = false)(h:x = some a)(h':x = some b):G:=sN e (h.symm.trans h')
theorem CN{α}{x:Option α}{a:α}{G:Prop}(h:x = none)(h':x = some a):G:=by subst h; cases h'
theorem sT2{Y:So}{z:Nat}{a b:O}{G:Prop}(e:Nat.beq a.tag b.tag = false)(q:z = y)(h:Y y = some a)(h':Y z = some b):G:=by subst q; exact QJ e h h'
theorem sS2{α}{f:Nat->Option α}{z:Nat}{a:α}{G:Prop}(q:z = y)(h:f y = none)(h':f z = some a):G:=by subst q; exact CN h h'
theorem sS3{α}{f:Nat->Option α}{z:Nat}{a:α}{G:Prop}(q:z = y)(h:f y = some a)(h':f z = none):G:=by subst q; exact CN h' h
theorem QK{α}{x:Option α}{a b:α}(h:x = some a)(h':x = some b):a = b:=Option.some.inj (h.symm.trans h')
theorem sX2{α}{f:Nat->Option α}{z:Nat}{a b:α}(q:z = y)(h:f y = some a)(h':f z = some b):a = b:=by subst q; exact QK h h'
theorem sV{a b:V}{G:Prop}(e:Nat.beq a.ctorIdx b.ctorIdx = false)(h:some a = some b):G:=sN e h
open PySem PySem.W in
theorem wpT{α}{A:Around}{E:Value->Shared->Prop}{c:Prop} [Decidable c]{a b:Sem α}{Q:α->Shared->Prop}(hc:c)(h:wpAny M A a Q E s):wpAny M A (if c then a else b) Q E s:=by rw [if_pos hc]; exact h
open PySem PySem.W in
theorem QL{α}{A:Around}{E:Value->Shared->Prop}{c:Prop} [Decidable c]{a b:Sem α}{Q:α->Shared->Prop}(hc:¬ c)(h:wpAny M A b Q E s):wpAny M A (if c then a else b) Q E s:=by rw [if_neg hc]; exact h
open PySem PySem.W in
theorem aqV{α β}{A:Around}{E:Value->Shared->Prop}{c:Prop} [Decidable c]{a b:Sem α}{k:α->Sem β}{Q:β->Shared->Prop}(hc:c)(h:wpAny M A (a >>= k) Q E s):wpAny M A ((if c then a else b) >>= k) Q E s:=by rw [if_pos hc]; exact h
open PySem PySem.W in
theorem aqU{α β}{A:Around}{E:Value->Shared->Prop}{c:Prop} [Decidable c]{a b:Sem α}{k:α->Sem β}{Q:β->Shared->Prop}(hc:¬ c)(h:wpAny M A (b >>= k) Q E s):wpAny M A ((if c then a else b) >>= k) Q E s:=by rw [if_neg hc]; exact h
theorem nT{a b:O}(e:Nat.beq a.tag b.tag = false):a ≠ b:=λh=>by subst h; rw [Nat.beq_refl] at e; cases e
theorem nU{a b:O}(e:Nat.beq a.tag b.tag = false):some a ≠ some b:=λh=>nT e (sI h)
theorem nV{a b:V}(e:Nat.beq a.ctorIdx b.ctorIdx = false):a ≠ b:=λh=>by subst h; rw [Nat.beq_refl] at e; cases e
theorem v9{α}{a:α}{G:Prop}(h:a ∈ []):G:=absurd h List.not_mem_nil
theorem gE{α}{l r:List α}{a:α}:(l++a::r)[l.length]? = some a:=(List.getElem?_append_right (Nat.le_refl _)).trans (congrArg (λi=>(a::r)[i]?) (Nat.sub_self _))
inductive Lx
 | c (n:Nat)
 | v (i:Nat)
 | a (x y:Lx)
 | s (x y:Lx)
 | m (k:Nat) (x:Lx)
 | t (x:Lx)
inductive Lc
 | i (k:Nat) (x y:Lx)
 | j (k:Nat) (x y:Lx)
 | ff
def Lc.R{α} [LE α] [LT α](k:Nat)(x y:α):Prop:=match k with
 | 0=>x <= y
 | 1=>x < y
 | 2=>x = y
 | 3=>¬ x <= y
 | 4=>¬ x < y
 | _=>x = y
def Lx.at{α}(z:α):List α->Nat->α
 | [],_=>z
 | x::_,0=>x
 | _::r,i + 1=>Lx.at z r i
def Lx.e(w:List Nat):Lx->Nat
 | .c n=>n
 | .v i=>Lx.at 0 w i
 | .a x y=>x.e w + y.e w
 | .m k x=>k * x.e w
 | _=>0
def Lx.d(l:List Int)(w:List Nat):Lx->Int
 | .c n=>Int.ofNat n
 | .v i=>Lx.at 0 l i
 | .a x y=>x.d l w + y.d l w
 | .s x y=>x.d l w - y.d l w
 | .m k x=>Int.ofNat k * x.d l w
 | .t x=>((x.e w:Nat):Int)
def Lc.d(l:List Int)(w:List Nat):Lc->Prop
 | .i k x y=>Lc.R k (x.d l w) (y.d l w)
 | .j k x y=>Lc.R k (x.e w) (y.e w)
 | .ff=>False
def Lx.ok:Lx->Bool
 | .a x y=>x.ok && y.ok
 | .m _ x=>x.ok
 | .c _=>true
 | .v _=>true
 | _=>false
def pa:List Int->List Int->List Int
 | [],q=>q
 | p,[]=>p
 | x::p,y::q=>(x + y)::pa p q
def pk(k:Int):List Int->List Int
 | []=>[]
 | x::p=>k * x::pk k p
def pv:Nat->List Int
 | 0=>[1]
 | i + 1=>0::pv i
def pe(f:Nat->Int):List Int->Int
 | []=>0
 | c::p=>c * f 0 + pe (λi=>f (i + 1)) p
def Lx.q:Lx->List Int
 | .c n=>[Int.ofNat n]
 | .v i=>pv (2 * i + 2)
 | .a x y=>pa x.q y.q
 | .m k x=>pk (Int.ofNat k) x.q
 | _=>[]
def o2(f:List Int->List Int->List Int)(x y:Option (List Int)):Option (List Int):=x.bind λp=>y.map (f p)
theorem uC{f:List Int->List Int->List Int}{x y:Option (List Int)}{r:List Int}{P:Prop}(h:o2 f x y = some r)(k:∀ p q,x = some p->y = some q->f p q = r->P):P:=(Option.bind_eq_some_iff.mp h).elim λp z=>(Option.map_eq_some_iff.mp z.2).elim λq v=>k p q z.1 v.1 v.2
def Lx.p:Lx->Option (List Int)
 | .c n=>some [Int.ofNat n]
 | .v i=>some (pv (2 * i + 1))
 | .a x y=>o2 pa x.p y.p
 | .s x y=>o2 (λp q=>pa p (pk (-1) q)) x.p y.p
 | .m k x=>o2 (λp _=>pk (Int.ofNat k) p) x.p (some [])
 | .t x=>bif x.ok then some x.q else none
def Lx.r(b:Bool)(x:Lx):Option (List Int):=bif b then (Lx.t x).p else x.p
def pl(b:Bool)(x y:Lx)(k:Int):Option (List Int):=o2 (λp q=>pa [k] (pa p (pk (-1) q))) (x.r b) (y.r b)
def Lc.P(b:Bool)(k:Nat)(x y:Lx):Option (List Int):=match k with
 | 1=>pl b x y 1
 | 3=>pl b y x 1
 | 4=>pl b y x 0
 | _=>pl b x y 0
def Lc.G(b:Bool)(k:Nat)(x y:Lx):Option (List Int):=match k with
 | 0=>pl b y x 1
 | 1=>pl b y x 0
 | 3=>pl b x y 0
 | 4=>pl b x y 1
 | _=>none
def Lc.p:Lc->Option (List Int)
 | .i k x y=>Lc.P false k x y
 | .j k x y=>Lc.P true k x y
 | .ff=>none
def Lc.g:Lc->Option (List Int)
 | .i k x y=>Lc.G false k x y
 | .j k x y=>Lc.G true k x y
 | .ff=>some []
def Lc.F(k:Nat)(c:Int):Int:=if k = 2 then c else Int.ofNat c.natAbs
def Lc.f:Lc->Int->Int
 | .i k _ _,c=>Lc.F k c
 | .j k _ _,c=>Lc.F k c
 | .ff,c=>c
def Lc.sm:List Lc->List Int->Option (List Int)
 | [],_=>some []
 | h::hs,l=>l.casesOn (some []) λk ks=>o2 (λp q=>pa (pk (h.f k) p) q) h.p (Lc.sm hs ks)
def cz(b:Bool)(l:List Int):Bool:=l.rec (λ_=>true) (λc _ z b=>(bif b then decide (0 <= c) else c == 0) && z (!b)) b
def hp:List Int->Bool
 | []=>false
 | c::r=>decide (0 < c) && cz false r
def Lc.ck(g:Lc)(hs:List Lc)(l:List Int):Bool:=l.casesOn false λk ks=>(o2 (λp q=>pa (pk (Int.ofNat k.natAbs) p) q) g.g (Lc.sm hs ks)).any hp
def Lc.im(d:Lc->Prop)(G:Prop):List Lc->Prop
 | []=>G
 | h::hs=>d h->Lc.im d G hs
def cF(l:List Int)(w:List Nat):Nat->Int
 | 0=>1
 | i + 1=>if i % 2 = 0 then Lx.at 0 l (i / 2) else ((Lx.at 0 w (i / 2):Nat):Int)
theorem uD{f:Nat->Int}{p q:List Int}:pe f (pa p q) = pe f p + pe f q:=by
 induction p generalizing f q with
 | nil=>cases q <;> exact (Int.zero_add _).symm
 | cons c p ih =>
  cases q with
  | nil=>exact (Int.add_zero _).symm
  | cons e q =>
   show (c + e) * f 0 + pe _ (pa p q) = c * f 0 + pe _ p + (e * f 0 + pe _ q)
   rw [ih,Int.add_mul,Int.add_assoc,Int.add_assoc,Int.add_left_comm (e * f 0)]
theorem wa{k:Int}{f:Nat->Int}{p:List Int}:pe f (pk k p) = k * pe f p:=by
 induction p generalizing f with
 | nil=>exact (Int.mul_zero k).symm
 | cons c p ih =>
  show k * c * f 0 + pe _ (pk k p) = k * (c * f 0 + pe _ p)
  rw [ih,Int.mul_add,Int.mul_assoc]
theorem CP{n:Int}:n * 1 + 0 = n:=by rw [Int.mul_one,Int.add_zero]
theorem IJ{i:Nat}{f:Nat->Int}:pe f (pv i) = f i:=by
 induction i generalizing f with
 | zero=>show 1 * f 0 + 0 = f 0; rw [Int.one_mul,Int.add_zero]
 | succ i ih=>show 0 * f 0 + pe _ (pv i) = f (i + 1); rw [ih,Int.zero_mul,Int.zero_add]
theorem Lx.qd{x:Lx}:x.ok = true->pe (cF l w) x.q = ((x.e w:Nat):Int):=by
 induction x with
 | c n=>exact λ_=>CP
 | v i =>
  intro _
  show pe _ (pv _) = ((Lx.at 0 w i:Nat):Int)
  rw [IJ]
  show (if (2 * i + 1) % 2 = 0 then _ else ((Lx.at 0 w ((2 * i + 1) / 2):Nat):Int)) = _
  rw [if_neg (by rw [Nat.mul_add_mod]; decide),show (2 * i + 1) / 2 = i from Nat.mul_add_div (by decide) i 1]
 | a x y hx hy =>
  intro h
  have h:=Bool.and_eq_true_iff.mp h
  exact uD.trans (congr (congrArg _ (hx h.1)) (hy h.2))
 | m k x hx=>exact λh=>wa.trans (congrArg _ (hx h))
 | _=>exact λh=>(Bool.false_ne_true h).elim
theorem Lx.pd{x:Lx}:∀ {p:List Int},x.p = some p->pe (cF l w) p = x.d l w:=by
 induction x with
 | c n=>exact λh=>Option.some.inj h ▸ CP
 | v i =>
  refine λh=>Option.some.inj h ▸ ?_
  rw [IJ]
  show (if (2 * i) % 2 = 0 then Lx.at 0 l ((2 * i) / 2) else _) = Lx.at 0 l i
  rw [if_pos (Nat.mul_mod_right 2 i),show 2 * i / 2 = i from Nat.mul_div_cancel_left i (by decide)]
 | a x y hx hy=>exact λh=>uC h λp q a b e=>e ▸ uD.trans (congr (congrArg _ (hx a)) (hy b))
 | s x y hx hy=>exact λh=>uC h λp q a b e=>e ▸ uD.trans ((congr (congrArg _ (hx a)) (wa.trans ((Int.neg_one_mul _).trans (congrArg _ (hy b))))).trans Int.sub_eq_add_neg.symm)
 | m k x hx=>exact λh=>uC h λp q a b e=>e ▸ wa.trans (congrArg _ (hx a))
 | t x _ =>
  intro p h
  have h:(bif x.ok then some x.q else none) = some p:=h
  cases q:x.ok with
  | true=>rw [q] at h; exact Option.some.inj h ▸ x.qd q
  | false=>rw [q] at h; cases h
def Lx.z(l:List Int)(w:List Nat)(b:Bool)(x:Lx):Int:=bif b then ((x.e w:Nat):Int) else x.d l w
theorem Lx.rd{x:Lx}{p:List Int}(e:x.r b = some p):pe (cF l w) p = x.z l w b:=by
 cases b with
 | true=>exact Lx.pd (x:=.t x) e
 | false=>exact Lx.pd e
theorem CQ{x y:Lx}{k:Int}{p:List Int}(h:pl b x y k = some p):pe (cF l w) p = k + (x.z l w b - y.z l w b) :=
 uC h λp q a b e=>e ▸ uD.trans (congr (congrArg _ CP) (uD.trans ((congr (congrArg _ (Lx.rd a)) (wa.trans ((Int.neg_one_mul _).trans (congrArg _ (Lx.rd b))))).trans Int.sub_eq_add_neg.symm)))
theorem Az{x y:Lx}{p:List Int}(h:pl b x y 1 = some p)(e:x.z l w b < y.z l w b):pe (cF l w) p <= 0:=by rw [CQ h,<- Int.add_sub_assoc,Int.add_comm 1]; exact Int.sub_nonpos_of_le e
theorem AA{x y:Lx}{p:List Int}(h:pl b x y 0 = some p)(e:x.z l w b <= y.z l w b):pe (cF l w) p <= 0:=by rw [CQ h,Int.zero_add]; exact Int.sub_nonpos_of_le e
theorem IK{x y:Lx}{c:Int}{p:List Int}(h:pl b x y 0 = some p)(e:x.z l w b = y.z l w b):c * pe (cF l w) p <= 0:=by rw [CQ h,e,Int.sub_self,Int.add_zero,Int.mul_zero]; exact Int.le_refl _
theorem wc{c:Int}{e:Int}(h:e <= 0):Int.ofNat c.natAbs * e <= 0:=Int.mul_nonpos_of_nonneg_of_nonpos (Int.natCast_nonneg _) h
theorem IL{k:Nat}{x y:Lx}:Lc.R k (x.e w) (y.e w) ↔ Lc.R k (x.z l w true) (y.z l w true):=by
 rcases k with _ | _ | _ | _ | _ | k
 ·exact Int.ofNat_le.symm
 ·exact Int.ofNat_lt.symm
 ·exact Int.ofNat_inj.symm
 ·exact not_congr Int.ofNat_le.symm
 ·exact not_congr Int.ofNat_lt.symm
 ·exact Int.ofNat_inj.symm
theorem IQ{x y:Lx}{c:Int}{p:List Int}{k:Nat}(h:Lc.P b k x y = some p)(e:Lc.R k (x.z l w b) (y.z l w b)):Lc.F k c * pe (cF l w) p <= 0:=by
 rcases k with _ | _ | _ | _ | _ | k
 ·exact wc (AA h e)
 ·exact wc (Az h e)
 ·exact IK h e
 ·exact wc (Az h (Int.not_le.mp e))
 ·exact wc (AA h (Int.not_lt.mp e))
 ·exact IK h e
theorem IU{x y:Lx}{p:List Int}{k:Nat}(h:Lc.G b k x y = some p)(e:¬ Lc.R k (x.z l w b) (y.z l w b)):pe (cF l w) p <= 0:=by
 rcases k with _ | _ | _ | _ | _ | k
 ·exact Az h (Int.not_le.mp e)
 ·exact AA h (Int.not_lt.mp e)
 ·cases h
 ·exact AA h (Decidable.not_not.mp e)
 ·exact Az h (Decidable.not_not.mp e)
 ·cases h
theorem Lc.pd{c:Int}{h:Lc}{p:List Int}(u:h.p = some p)(e:h.d l w):h.f c * pe (cF l w) p <= 0:=by
 cases h with
 | i=>exact IQ u e
 | j=>exact IQ (l:=l) u (IL.mp e)
 | ff=>cases u
theorem Lc.gd{h:Lc}{p:List Int}(u:h.g = some p)(e:¬ h.d l w):pe (cF l w) p <= 0:=by
 cases h with
 | i=>exact IU u e
 | j=>exact IU (l:=l) u λq=>e (IL.mpr q)
 | ff=>exact Option.some.inj u ▸ Int.le_refl _
theorem IV{w p q:List Int}{f:Nat->Int}{c:Int}(e:pa (pk c p) q = w)(h:c * pe f p <= 0)(i:pe f q <= 0):pe f w <= 0:=e ▸ uD.symm ▸ wa.symm ▸ Int.add_nonpos h i
theorem Lc.QM{hs:List Lc}:∀ {ks p:List Int},Lc.sm hs ks = some p->(∀ h ∈ hs,h.d l w)->pe (cF l w) p <= 0:=by
 induction hs with
 | nil=>exact λh _=>Option.some.inj h ▸ Int.le_refl _
 | cons h hs ih =>
  intro ks p q e
  cases ks with
  | nil=>exact Option.some.inj q ▸ Int.le_refl _
  | cons k ks=>exact uC q λx y a b z=>IV z (Lc.pd a (e h (.head _))) (ih b λx hx=>e x (.tail _ hx))
theorem QN{p:List Int}:∀ {b:Bool} {f:Nat->Int},(∀ i,(cond b 0 1 = i % 2)->0 <= f i)->cz b p = true->0 <= pe f p:=by
 induction p with
 | nil=>exact λ_ _=>Int.le_refl _
 | cons c p ih =>
  intro b f hf h
  have h:=Bool.and_eq_true_iff.mp h
  have h1:=ih (f:=λi=>f (i + 1)) (λi hi=>hf (i + 1) (by
   rw [Nat.add_mod,<- hi]
   cases b <;> rfl)) h.2
  cases b with
  | true=>exact Int.add_nonneg (Int.mul_nonneg (of_decide_eq_true h.1) (hf 0 rfl)) h1
  | false =>
   show 0 <= c * f 0 + pe _ p
   rw [show c = 0 from beq_iff_eq.mp h.1,Int.zero_mul,Int.zero_add]; exact h1
theorem QO{p:List Int}(h:hp p = true)(e:pe (cF l w) p <= 0):False:=by
 cases p with
 | nil=>cases h
 | cons c r =>
  have h:=Bool.and_eq_true_iff.mp h
  exact absurd e (Int.not_le.mpr (Int.add_pos_of_pos_of_nonneg (by rw [show cF l w 0 = 1 from rfl,Int.mul_one]; exact of_decide_eq_true h.1) (QN (f:=λi=>cF l w (i + 1)) (λi hi=>by
   show 0 <= if i % 2 = 0 then _ else _
   rw [if_neg (by rw [<- hi]; decide)]; exact Int.natCast_nonneg _) h.2)))
theorem QP{x:Option (List Int)}{P:Prop}(h:x.any hp = true)(k:∀ p,x = some p->hp p = true->P):P:=by
 cases x with
 | none=>cases h
 | some p=>exact k p rfl h
theorem Lc.sd{g:Lc}{hs:List Lc}{ks:List Int}(e:g.ck hs ks = true)(H:∀ h ∈ hs,h.d l w):g.d l w:=by
 refine Classical.byContradiction λn=>?_
 cases ks with
 | nil=>cases e
 | cons k ks =>
  exact QP e λp u v=>uC u λx y a b z=>QO v (IV z (wc (Lc.gd a n)) (Lc.QM b H))
theorem CT{d:Lc->Prop}{G:Prop}{hs:List Lc}(k:(∀ h ∈ hs,d h)->G):Lc.im d G hs:=by
 induction hs with
 | nil=>exact k λ_ h=>v9 h
 | cons h hs ih=>exact λx=>ih λH=>k λy hy=>(List.mem_cons.mp hy).elim (λe=>e ▸ x) (H y)
theorem li(l:List Int)(w:List Nat)(g:Lc)(hs:List Lc)(ks:List Int)(e:g.ck hs ks = true):Lc.im (Lc.d l w) (g.d l w) hs:=CT λH=>Lc.sd e H
theorem le2(l:List Int)(w:List Nat)(x y:Lx)(hs:List Lc)(ks js:List Int)(e:(Lc.i 0 x y).ck hs ks = true)(e':(Lc.i 0 y x).ck hs js = true):Lc.im (Lc.d l w) (x.d l w = y.d l w) hs:=CT λH=>Int.le_antisymm (Lc.sd e H) (Lc.sd e' H)
theorem ln2(l:List Int)(w:List Nat)(x y:Lx)(hs:List Lc)(ks js:List Int)(e:(Lc.j 0 x y).ck hs ks = true)(e':(Lc.j 0 y x).ck hs js = true):Lc.im (Lc.d l w) (x.e w = y.e w) hs:=CT λH=>Nat.le_antisymm (Lc.sd (l:=l) e H) (Lc.sd (l:=l) e' H)
end Tactic
local macro_rules (kind:=Lean.Parser.Tactic.obtain)
 | s =>
  let p:=s[1][0]
  let t:=s[3][1][0]
  let h:=if s[2].getNumArgs == 0 then t else Tactic.zM "typeAscription" [Tactic.zM "hygienicLParen" [Tactic.zA "(",.node .none `hygieneInfo #[Tactic.zI ""]],t,Tactic.zA ":",Tactic.zN [s[2][1]],Tactic.zA ")"]
  pure (Tactic.tF [Tactic.IB h p,Tactic.IC h p "Tactic.x_02",Tactic.IC h p "Tactic.x_11",Tactic.tA h (Tactic.zT "rcasesPatLo" [p,Tactic.zN []])])
local macro_rules (kind:=Lean.Parser.Tactic.rcases)
 | s =>
  let h:=s[1][0][1]
  let p:=s[2][1]
  Tactic.zO (s[1].getNumArgs == 1 && s[1][0][0].getNumArgs == 0 && !h.isOfKind `Lean.Parser.Term.paren && p[1].getNumArgs == 0) (Tactic.tF [Tactic.IB h p[0],Tactic.tA h p])
local macro_rules (kind:=Lean.Parser.Tactic.rintro)
 | s=>Tactic.zO (s[2].getNumArgs == 0 && s[1].getArgs.all (·.isOfKind `Lean.Parser.Tactic.rintroPat.one)) (Tactic.tS (Tactic.IE 0 s[1].getArgs.toList))
local macro_rules (kind:=Lean.Parser.Tactic.simp)
 | s=>Tactic.zO (s[3].getNumArgs == 0 && s[4].getNumArgs == 0 && s[5].getNumArgs == 0 && s[1][0].getNumArgs == 0) Tactic.cls
local macro_rules (kind:=Lean.Parser.Tactic.cases)
 | s=>Tactic.zO (s[1][0][1].isIdent && s[1][0][0].getNumArgs == 0 && s[2].getNumArgs == 0 && s[3].getNumArgs == 0) (Tactic.IG s[1][0][1])
local macro_rules (kind:=Lean.Parser.Tactic.rwSeq)
 | s =>
  let r:=Tactic.ss s[2][1]
  let h:=s[3][0][1][0][0]
  if s[3].getNumArgs == 0 then pure (Tactic.QH r)
  else Tactic.zO (h.isIdent && s[3][0][1][0].getNumArgs == 1 && !r.any Tactic.qs) (Tactic.II h s[3][0] r)
local macro_rules (kind:=Lean.Parser.Tactic.«tacticExists_,,»)
 | s=>pure (Tactic.tF (["Tactic.aqS","Tactic.I7","Tactic.aqT","Tactic.m9","Tactic.aqP","Tactic.aqR","Tactic.aqO","Tactic.aqN","Tactic.Sr","Tactic.aqQ","Tactic.Sn","Tactic.Sp"].map λn=>Tactic.tR (Tactic.ap n [s[1][0],Tactic.zq])))
local macro_rules (kind:=Lean.Parser.Tactic.«tacticNomatch_,,»)
 | s=>pure (Tactic.QI (Tactic.ss s[1]))
local macro_rules (kind:=Lean.Parser.Term.anonymousCtor)
 | s =>
  let l:=Tactic.ss s[1]
  match l.head?.bind (·.isStrLit?) with
  | some t=>pure (Tactic.pS t l.tail)
  | none=>Lean.Macro.throwUnsupported
local macro_rules (kind:=Lean.Parser.Tactic.show)
 | s=>pure (Tactic.tF [Tactic.tR s[1],Tactic.zT "change" [Tactic.zA "change",s[1],Tactic.zN []]])
local macro_rules (kind:=Lean.Parser.Tactic.exact)
 | s=>pure (Tactic.tR s[1])
local macro_rules (kind:=Lean.Parser.Tactic.intros)
 | s=>pure (Tactic.zT "intro" [Tactic.zA "intro",Tactic.zN (["J","w","bz","F","W","A","f","sc","m","Y0","s0","Y","s"].map Tactic.zI)])
local macro_rules (kind:=char)
 | s=>pure (Tactic.zzV (match s.isCharLit? with
  | some c=>Tactic.zn (if c.toNat < 127 then c.toNat - 35 else c.toNat - 75)
  | none=>Tactic.zH))
local macro_rules (kind:=scientific)
 | s=>let l:=(s[0].getAtomVal.splitOn ".").map λx=>Tactic.zn x.toNat!
  pure (Tactic.zzA "attr" (Tactic.zzV l.head!::l.tail))
namespace Lh.Tactic
open PySem PySem.W PySem.Calls PyProof.Rows
noncomputable section
def pw:Program:=PySem.Challenge.pw_on0074_01
def aw(i:Nat):Stmt:=pw.main.body.getD i (.Pass ⟨0,0,0,0⟩)
def st(i:Nat):Stmt:=aw i
def su(i j:Nat):Stmt:=match aw i with
 | .ClassDef _ _ _ b _ _ _ _ _ _ _=>b.getD j (.Pass ⟨0,0,0,0⟩)
 |s=>s
def kF:Stmt->Arguments
 | .FunctionDef _ a _ _ _ _ _ _ _ _=>a
 |_=>⟨[],[],none,[],[],none,[]⟩
def mU:Stmt->List Stmt
 | .FunctionDef _ _ b _ _ _ _ _ _ _=>b
 |_=>[]
def cg:Stmt->Scope
 | .FunctionDef _ _ _ _ _ _ s _ _ _=>s
 |_=>{ kind:=.function,names:=[],isGenerator:=false,isCoroutine:=false,more:=[]}
abbrev S(x:String)(t:Nat):Value:=.str (Str.ofString x) t
abbrev I(i:Int):Value:=.int i 0
abbrev It(i:Int)(t:Nat):Value:=.int i t
abbrev R(a:Nat):Value:=.ref a
abbrev B(b:Bool):Value:=.bool b
abbrev aR:=S "emacs.intervals" 308
abbrev cP:=S "emacs.textprops" 591
abbrev dS:=S "law_on0074_01" 1693
abbrev eX:=S "emacs.buffer" 1114
abbrev me:=S "emacs.undolist" 1394
abbrev gB:=S "emacs.gap" 852
abbrev gC:=S "emacs.editing" 1253
abbrev mh:=S "emacs.plists" 227
abbrev mi:=S "emacs.markers" 972
abbrev mj:=S "emacs.bufferprops" 779
abbrev ly:=S "emacs.primundo" 1533
abbrev ml:=S "emacs.recording" 1635
abbrev rA:=S "emacs.piecing" 1364
abbrev mn:=S "emacs.errors" 194
abbrev uE:=S "emacs.objects" 1070
abbrev wd:=S "emacs.pieces" 1602
abbrev N:Value:=.none
abbrev Ty(x:String):Value:=.type x
abbrev Bi(x:String):Value:=.builtin x
def T0:Obj:={ cls:=.type "tuple",data:=.seq (Array.mk [])}
def T(l:List Value):Obj:={ cls:=.type "tuple",data:=.seq (Array.mk l)}
def IW:List String->Nat->List Value
 | [],_=>[]
 |x::r,t=>.str (Str.ofString x) t::IW r (t+1)
def Tn(l:List String)(t:Nat):Obj:={ cls:=.type "tuple",data:=.seq (Array.mk (IW l t))}
def F0:Obj:={ cls:=.none,data:=.fields (Array.mk [])}
def F(l:List Value):Obj:={ cls:=.none,data:=.fields (Array.mk l)}
def Co(nm ql:String)(t:Nat)(ln np fl:Int)(ra:Nat)(QQ:Bool)(rf:Nat)(QR QS QT:Value)(tk:Int)(t':Nat):Obj:=
 { cls:=.type "code",data:=.fields (Array.mk [.str (Str.ofString nm) t,.str (Str.ofString ql) (t+1),.str (Str.ofString "/claim/cut.py") (t+2),.int ln 0,.int np 0,.int 0 0,.int 0 0,.int fl 0,.ref ra,.bool QQ,.int 181 0,.ref rf,.none,QR,QS,QT,.int tk 0,.int ln 0,.str (Str.ofString "/claim/cut.py") t'])}
def Fm(l:List (Option Value)):Obj:={ cls:=.type "frame",slots:=Array.mk l}
def jQ(P:Params):List (String×Nat×Value)->List DictEntry
 | []=>[]
 |(x,t,v)::r=>⟨PyData.keyHash P (Str.ofString x),.str (Str.ofString x) t,v⟩::jQ P r
def D(P:Params)(l:List (String×Nat×Value))(n:Nat):Obj:={ cls:=.type "dict",data:=.dict (Array.mk (jQ P l)) n}
def D0(P:Params)(l:List (String×Nat×Value))(n:Nat):Obj:={ cls:=.none,data:=.dict (Array.mk (jQ P l)) n}
def X(c:String)(l:List Value):Obj:={ cls:=.type c,data:=.fields (Array.mk l)}
def Cl(nm ql:String)(bs mro:List Value)(ns:Nat)(sub:List Value)(sl:List (Option Value)):Obj:=
 { cls:=.type "type",data:=.cls { name:=Str.ofString nm,bases:=bs,mro:=mro,ns:=ns,qualname:=Str.ofString ql,subclasses:=sub},slots:=Array.mk sl}
def Fh(nm ql:String)(s:Stmt):Obj:=
 { cls:=.none,data:=.func { name:=Str.ofString nm,qualname:=Str.ofString ql,params:=kF s,body:=.stmts (mU s),scope:=cg s,globals:=0,closure:=[],defaults:=.none,kwdefaults:=.none}}
def Fn(nm ql:String)(s:Stmt)(dV pm cd:Value):Obj:=
 { cls:=.type "function",data:=.func { name:=Str.ofString nm,qualname:=Str.ofString ql,params:=kF s,body:=.stmts (mU s),scope:=cg s,globals:=3,closure:=[],defaults:=dV,kwdefaults:=.none,pyModule:=pm,code:=cd}}
def aG(x:String):=Fn x x
def aE(x:String):=Co x x
def aH(x:String):=Fh x x
def QV(P:Params):List Obj:=[
 T0,F0,aE "<module>" 182 1 0 0 11 false 12 N N N 185 186,Fm [some (R 13),some (R 3),some (R 3),none,some (S "__main__" 164),none,some (R 0)],T0,F0,Tn ["k"] 190,T0,aH "_wall" (st 0),aE "_wall" 187 1 1 3 15 true 16 (R 17) (R 18) (R 19) 191 192,aG "_wall" (st 0) N (S "__main__" 164) (R 20),T [Ty "Exception"],X "builtin_function_or_method" [Bi "type.__prepare__",Ty "type"],D P [("__module__",203,mn),("__qualname__",205,S "LispSignal" 204),("__firstlineno__",207,It 5 206),("__init__",216,R 35),("__static_attributes__",219,R 36)] 5,T0,F [I 7,I 4,R 34],aE "LispSignal" 198 5 0 0 25 false 26 N N N 201 202,Fm [some (R 27),some (R 3),some (R 24),none,some mn,none,some (R 0)],T0,F0,Tn ["self","symbol","data"] 211,T0,Fh "__init__" "LispSignal.__init__" (su 2 0),Co "__init__" "LispSignal.__init__" 208 7 3 3 29 true 30 (R 31) (R 32) (R 33) 214 215,Fn "__init__" "LispSignal.__init__" (su 2 0) N mn (R 34),Tn ["data","symbol"] 217,D P [("__module__",203,mn),("__firstlineno__",207,It 5 206),("__init__",216,R 35),("__static_attributes__",219,R 36),("__weakref__",221,R 39),("__doc__",222,N)] 3,Cl "LispSignal" "LispSignal" [Ty "Exception"] [R 38,Ty "Exception",Ty "BaseException",Ty "object"] 37 [] [some (R 22),none,some (S "LispSignal" 196),some (S "LispSignal" 204),some (Bi "Exception.__new__"),some (B true)],X "getset_descriptor" [S "__weakref__" 220,R 38,Bi "ExceptionGroup.__weakref__",N],X "super" [R 38,R 38,R 38],X "builtin_function_or_method" [Bi "object.__init_subclass__",R 38],T0]
def QW(P:Params):List Obj:=[
 F0,Tn ["one","other"] 232,T0,aH "eq" (st 4),aE "eq" 229 11 2 3 42 true 43 (R 44) (R 45) (R 46) 234 235,aG "eq" (st 4) N mh (R 47),T0,F0,Tn ["plist","number","at"] 240,T0,aH "plist_find" (st 5),aE "plist_find" 237 15 2 3 49 true 50 (R 51) (R 52) (R 53) 243 244,aG "plist_find" (st 5) N mh (R 54),T0,F0,Tn ["plist","number","at"] 249,T0,aH "plist_get" (st 6),aE "plist_get" 246 20 2 3 56 true 57 (R 58) (R 59) (R 60) 252 253,aG "plist_get" (st 6) N mh (R 61),T0,F0,Tn ["plist","number","value","at"] 258,T0,aH "plist_with" (st 7),aE "plist_with" 255 23 3 3 63 true 64 (R 65) (R 66) (R 67) 262 263,aG "plist_with" (st 7) N mh (R 68),T0,F0,aH "plist_without" (st 8),aE "plist_without" 265 28 2 3 70 true 71 N N (R 72) 268 269,aG "plist_without" (st 8) N mh (R 73)]
def QX(P:Params):List Obj:=[
 T0,F0,Tn ["plist","number","value","at"] 274,T0,aH "holds_pair" (st 9),aE "holds_pair" 271 30 3 3 75 true 76 (R 77) (R 78) (R 79) 278 279,aG "holds_pair" (st 9) N mh (R 80),T0,F0,Tn ["one","other","number","value"] 284,T0,aH "same_plist" (st 10),aE "same_plist" 281 33 2 3 82 true 83 (R 84) (R 85) (R 86) 288 289,aG "same_plist" (st 10) N mh (R 87),T0,F0,aH "plist_removed" (st 11),aE "plist_removed" 291 40 2 3 89 true 90 N N (R 91) 294 295,aG "plist_removed" (st 11) N mh (R 92),T0,F0,Tn ["one","other","found","number","value"] 300,T0,aH "changed_properties" (st 12),aE "changed_properties" 297 42 2 3 94 true 95 (R 96) (R 97) (R 98) 305 306,aG "changed_properties" (st 12) N mh (R 99),T0,X "builtin_function_or_method" [Bi "type.__prepare__",Ty "type"],D P [("__module__",317,aR),("__qualname__",319,S "Interval" 318),("__firstlineno__",321,It 52 320),("__init__",330,R 114),("__static_attributes__",336,R 115)] 5,T0,F [I 54,I 4,R 113],aE "Interval" 312 52 0 0 104 false 105 N N N 315 316]
def QY(P:Params):List Obj:=[
 Fm [some (R 106),some (R 3),some (R 103),none,some aR,none,some (R 0)],T0,F0,Tn ["self","total","plist"] 325,T0,Fh "__init__" "Interval.__init__" (su 14 0),Co "__init__" "Interval.__init__" 322 54 3 3 108 true 109 (R 110) (R 111) (R 112) 328 329,Fn "__init__" "Interval.__init__" (su 14 0) N aR (R 113),Tn ["left","parent","plist","right","total"] 331,D P [("__module__",317,aR),("__firstlineno__",321,It 52 320),("__init__",330,R 114),("__static_attributes__",336,R 115),("__dict__",338,R 118),("__weakref__",340,R 119),("__doc__",341,N)] 4,Cl "Interval" "Interval" [Ty "object"] [R 117,Ty "object"] 116 [] [none,none,some (S "Interval" 310),some (S "Interval" 318),some (Bi "object.__new__"),some (B true)],X "getset_descriptor" [S "__dict__" 337,R 117,Bi "function.__dict__",Bi "function.__dict__#set"],X "getset_descriptor" [S "__weakref__" 339,R 117,Bi "ExceptionGroup.__weakref__",N],X "super" [R 117,R 117,R 117],X "builtin_function_or_method" [Bi "object.__init_subclass__",R 117],T0,X "builtin_function_or_method" [Bi "type.__prepare__",Ty "type"],D P [("__module__",351,aR),("__qualname__",353,S "IntervalTree" 352),("__firstlineno__",355,It 60 354),("__init__",364,R 135),("__static_attributes__",366,R 136)] 5,T0,F [I 62,I 4,R 134],aE "IntervalTree" 346 60 0 0 125 false 126 N N N 349 350,Fm [some (R 127),some (R 3),some (R 124),none,some aR,none,some (R 0)],T0,F0,Tn ["self","length","plist"] 359,T0,Fh "__init__" "IntervalTree.__init__" (su 15 0),Co "__init__" "IntervalTree.__init__" 356 62 3 3 129 true 130 (R 131) (R 132) (R 133) 362 363,Fn "__init__" "IntervalTree.__init__" (su 15 0) N aR (R 134),Tn ["root"] 365,D P [("__module__",351,aR),("__firstlineno__",355,It 60 354),("__init__",364,R 135),("__static_attributes__",366,R 136),("__dict__",368,R 139),("__weakref__",370,R 140),("__doc__",371,N)] 4,Cl "IntervalTree" "IntervalTree" [Ty "object"] [R 138,Ty "object"] 137 [] [none,none,some (S "IntervalTree" 344),some (S "IntervalTree" 352),some (Bi "object.__new__"),some (B true)]]
def QZ(P:Params):List Obj:=[
 X "getset_descriptor" [S "__dict__" 367,R 138,Bi "function.__dict__",Bi "function.__dict__#set"],X "getset_descriptor" [S "__weakref__" 369,R 138,Bi "ExceptionGroup.__weakref__",N],X "super" [R 138,R 138,R 138],X "builtin_function_or_method" [Bi "object.__init_subclass__",R 138],T0,F0,Tn ["node"] 377,T0,aH "total_of" (st 16),aE "total_of" 374 64 1 3 143 true 144 (R 145) (R 146) (R 147) 378 379,aG "total_of" (st 16) N aR (R 148),T0,F0,Tn ["node"] 384,T0,aH "own_length" (st 17),aE "own_length" 381 66 1 3 150 true 151 (R 152) (R 153) (R 154) 385 386,aG "own_length" (st 17) N aR (R 155),T0,F0,Tn ["tree"] 391,T0,aH "text_length" (st 18),aE "text_length" 388 68 1 3 157 true 158 (R 159) (R 160) (R 161) 392 393,aG "text_length" (st 18) N aR (R 162),T0,F0,Tn ["tree","node","other","parent"] 398,T0,aH "put_in_stead" (st 19),aE "put_in_stead" 395 70 3 3 164 true 165 (R 166) (R 167) (R 168) 402 403,aG "put_in_stead" (st 19) N aR (R 169)]
def Q0(P:Params):List Obj:=[
 T0,F0,Tn ["node","son"] 408,T0,aH "set_left" (st 20),aE "set_left" 405 80 2 3 171 true 172 (R 173) (R 174) (R 175) 410 411,aG "set_left" (st 20) N aR (R 176),T0,F0,Tn ["node","son"] 416,T0,aH "set_right" (st 21),aE "set_right" 413 84 2 3 178 true 179 (R 180) (R 181) (R 182) 418 419,aG "set_right" (st 21) N aR (R 183),T0,F0,Tn ["tree","node","son","total"] 424,T0,aH "rotate_right" (st 22),aE "rotate_right" 421 88 2 3 185 true 186 (R 187) (R 188) (R 189) 428 429,aG "rotate_right" (st 22) N aR (R 190),T0,F0,Tn ["tree","node","son","total"] 434,T0,aH "rotate_left" (st 23),aE "rotate_left" 431 97 2 3 192 true 193 (R 194) (R 195) (R 196) 438 439,aG "rotate_left" (st 23) N aR (R 197),T0,F0,Tn ["node","son","difference"] 444,T0]
def Q5(P:Params):List Obj:=[
 aH "right_turn_helps" (st 24),aE "right_turn_helps" 441 106 1 3 199 true 200 (R 201) (R 202) (R 203) 447 448,aG "right_turn_helps" (st 24) N aR (R 204),T0,F0,Tn ["node","son","difference"] 453,T0,aH "left_turn_helps" (st 25),aE "left_turn_helps" 450 112 1 3 206 true 207 (R 208) (R 209) (R 210) 456 457,aG "left_turn_helps" (st 25) N aR (R 211),T0,F0,Tn ["tree","node","waiting","top","here","son"] 462,T0,aH "settle" (st 26),aE "settle" 459 118 2 3 213 true 214 (R 215) (R 216) (R 217) 468 469,aG "settle" (st 26) N aR (R 218),T0,F0,Tn ["tree","node"] 474,T0,aH "settle_up" (st 27),aE "settle_up" 471 132 2 3 220 true 221 (R 222) (R 223) (R 224) 476 477,aG "settle_up" (st 27) N aR (R 225),T0,F0,Tn ["node","many"] 482,T0,aH "add_above" (st 28),aE "add_above" 479 135 2 3 227 true 228 (R 229) (R 230) (R 231) 484 485,aG "add_above" (st 28) N aR (R 232),T0]
def Q6(P:Params):List Obj:=[
 F0,Tn ["tree","at","node","begin","ahead","own"] 490,T0,aH "find_interval" (st 29),aE "find_interval" 487 139 2 3 234 true 235 (R 236) (R 237) (R 238) 496 497,aG "find_interval" (st 29) N aR (R 239),T0,F0,Tn ["node"] 502,T0,aH "leftmost" (st 30),aE "leftmost" 499 152 1 3 241 true 242 (R 243) (R 244) (R 245) 503 504,aG "leftmost" (st 30) N aR (R 246),T0,F0,Tn ["node"] 509,T0,aH "rightmost" (st 31),aE "rightmost" 506 156 1 3 248 true 249 (R 250) (R 251) (R 252) 510 511,aG "rightmost" (st 31) N aR (R 253),T0,F0,Tn ["node"] 516,T0,aH "following" (st 32),aE "following" 513 160 1 3 255 true 256 (R 257) (R 258) (R 259) 517 518,aG "following" (st 32) N aR (R 260),T0,F0,Tn ["node"] 523,T0,aH "preceding" (st 33)]
def Q7(P:Params):List Obj:=[
 aE "preceding" 520 166 1 3 262 true 263 (R 264) (R 265) (R 266) 524 525,aG "preceding" (st 33) N aR (R 267),T0,F0,Tn ["tree","node","fresh"] 530,T0,aH "put_behind" (st 34),aE "put_behind" 527 172 3 3 269 true 270 (R 271) (R 272) (R 273) 533 534,aG "put_behind" (st 34) N aR (R 274),T0,F0,Tn ["tree","node","fresh","before"] 539,T0,aH "put_ahead" (st 35),aE "put_ahead" 536 180 3 3 276 true 277 (R 278) (R 279) (R 280) 543 544,aG "put_ahead" (st 35) N aR (R 281),T0,F0,Tn ["tree","at","node","begin","rest"] 549,T0,aH "split_at" (st 36),aE "split_at" 546 188 2 3 283 true 284 (R 285) (R 286) (R 287) 554 555,aG "split_at" (st 36) N aR (R 288),T0,F0,Tn ["tree","node","above","son","moved","here"] 560,T0,aH "drop_interval" (st 37),aE "drop_interval" 557 197 2 3 290 true 291 (R 292) (R 293) (R 294) 566 567,aG "drop_interval" (st 37) N aR (R 295),T0,F0]
def Q8(P:Params):List Obj:=[
 Tn ["tree","at","many","plist","fresh"] 572,T0,aH "insert_interval" (st 38),aE "insert_interval" 569 213 4 3 297 true 298 (R 299) (R 300) (R 301) 577 578,aG "insert_interval" (st 38) N aR (R 302),T0,F0,Tn ["tree","begin","end","left","node"] 583,T0,aH "delete_range" (st 39),aE "delete_range" 580 225 3 3 304 true 305 (R 306) (R 307) (R 308) 588 589,aG "delete_range" (st 39) N aR (R 309),T0,X "builtin_function_or_method" [Bi "type.__prepare__",Ty "type"],D P [("__module__",600,cP),("__qualname__",602,S "TextProps" 601),("__firstlineno__",604,It 236 603),("__init__",612,R 324),("inserted",622,R 331),("deleted",631,R 338),("text_came",640,R 345),("text_gone",649,R 352),("rows_between",658,R 359),("put_rows",666,R 366),("__static_attributes__",668,R 367)] 11,T0,F [I 238,I 4,R 323,I 241,I 4,R 330,I 244,I 4,R 337,I 247,I 4,R 344,I 250,I 4,R 351,I 253,I 4,R 358,I 256,I 4,R 365],aE "TextProps" 595 236 0 0 314 false 315 N N N 598 599,Fm [some (R 316),some (R 3),some (R 313),none,some cP,none,some (R 0)],T0,F0,Tn ["self","length"] 608,T0,Fh "__init__" "TextProps.__init__" (su 41 0),Co "__init__" "TextProps.__init__" 605 238 2 3 318 true 319 (R 320) (R 321) (R 322) 610 611,Fn "__init__" "TextProps.__init__" (su 41 0) N cP (R 323),T0,F0,Tn ["self","at","many","plist"] 616,T0,Fh "inserted" "TextProps.inserted" (su 41 1),Co "inserted" "TextProps.inserted" 613 241 4 3 325 true 326 (R 327) (R 328) (R 329) 620 621]
def Q9(P:Params):List Obj:=[
 Fn "inserted" "TextProps.inserted" (su 41 1) N cP (R 330),T0,F0,Tn ["self","begin","end"] 626,T0,Fh "deleted" "TextProps.deleted" (su 41 2),Co "deleted" "TextProps.deleted" 623 244 3 3 332 true 333 (R 334) (R 335) (R 336) 629 630,Fn "deleted" "TextProps.deleted" (su 41 2) N cP (R 337),T0,F0,Tn ["self","at","many"] 635,T0,Fh "text_came" "TextProps.text_came" (su 41 3),Co "text_came" "TextProps.text_came" 632 247 3 3 339 true 340 (R 341) (R 342) (R 343) 638 639,Fn "text_came" "TextProps.text_came" (su 41 3) N cP (R 344),T0,F0,Tn ["self","at","end"] 644,T0,Fh "text_gone" "TextProps.text_gone" (su 41 4),Co "text_gone" "TextProps.text_gone" 641 250 3 3 346 true 347 (R 348) (R 349) (R 350) 647 648,Fn "text_gone" "TextProps.text_gone" (su 41 4) N cP (R 351),T0,F0,Tn ["self","begin","end"] 653,T0,Fh "rows_between" "TextProps.rows_between" (su 41 5),Co "rows_between" "TextProps.rows_between" 650 253 3 3 353 true 354 (R 355) (R 356) (R 357) 656 657,Fn "rows_between" "TextProps.rows_between" (su 41 5) N cP (R 358),T0,F0,Tn ["self","rows"] 662]
def Rc(P:Params):List Obj:=[
 T0,Fh "put_rows" "TextProps.put_rows" (su 41 6),Co "put_rows" "TextProps.put_rows" 659 256 2 3 360 true 361 (R 362) (R 363) (R 364) 664 665,Fn "put_rows" "TextProps.put_rows" (su 41 6) N cP (R 365),Tn ["tree"] 667,D P [("__module__",600,cP),("__firstlineno__",604,It 236 603),("__init__",612,R 324),("inserted",622,R 331),("deleted",631,R 338),("text_came",640,R 345),("text_gone",649,R 352),("rows_between",658,R 359),("put_rows",666,R 366),("__static_attributes__",668,R 367),("__dict__",670,R 370),("__weakref__",672,R 371),("__doc__",673,N)] 4,Cl "TextProps" "TextProps" [Ty "object"] [R 369,Ty "object"] 368 [] [none,none,some (S "TextProps" 593),some (S "TextProps" 601),some (Bi "object.__new__"),some (B true)],X "getset_descriptor" [S "__dict__" 669,R 369,Bi "function.__dict__",Bi "function.__dict__#set"],X "getset_descriptor" [S "__weakref__" 671,R 369,Bi "ExceptionGroup.__weakref__",N],X "super" [R 369,R 369,R 369],X "builtin_function_or_method" [Bi "object.__init_subclass__",R 369],T0,F0,Tn ["props","at"] 679,T0,aH "properties_at" (st 42),aE "properties_at" 676 258 2 3 374 true 375 (R 376) (R 377) (R 378) 681 682,aG "properties_at" (st 42) N cP (R 379),T0,F0,Tn ["props","begin","end","node","found","left"] 687,T0,aH "range_nodes" (st 43),aE "range_nodes" 684 262 3 3 381 true 382 (R 383) (R 384) (R 385) 693 694,aG "range_nodes" (st 43) N cP (R 386),T0,F0,Tn ["props","at","node","begin","ahead","many"] 699,T0,aH "join_at" (st 44),aE "join_at" 696 275 2 3 388 true 389 (R 390) (R 391) (R 392) 705 706,aG "join_at" (st 44) N cP (R 393)]
def Rf(P:Params):List Obj:=[
 T0,F0,Tn ["props","begin","end","at","node","first","last"] 711,T0,aH "join_range" (st 45),aE "join_range" 708 287 3 3 395 true 396 (R 397) (R 398) (R 399) 718 719,aG "join_range" (st 45) N cP (R 400),T0,F0,Tn ["props","begin","end","plist","changed","node"] 724,T0,aH "set_properties" (st 46),aE "set_properties" 721 295 4 3 402 true 403 (R 404) (R 405) (R 406) 730 731,aG "set_properties" (st 46) N cP (R 407),T0,F0,Tn ["props","begin","end","found","node","first","last"] 736,T0,aH "rows_between" (st 47),aE "rows_between" 733 303 3 3 409 true 410 (R 411) (R 412) (R 413) 743 744,aG "rows_between" (st 47) N cP (R 414),T0,F0,Tn ["props","rows","changed","begin","end","plist"] 750,T0,aH "put_rows" (st 49),aE "put_rows" 747 315 2 3 416 true 417 (R 418) (R 419) (R 420) 756 757,aG "put_rows" (st 49) N cP (R 421),T0,F0,Tn ["props","at","many","plist"] 763,T0]
def Rg(P:Params):List Obj:=[
 aH "text_inserted" (st 51),aE "text_inserted" 760 322 4 3 423 true 424 (R 425) (R 426) (R 427) 767 768,aG "text_inserted" (st 51) N cP (R 428),T0,F0,Tn ["props","begin","end"] 773,T0,aH "text_deleted" (st 52),aE "text_deleted" 770 326 3 3 430 true 431 (R 432) (R 433) (R 434) 776 777,aG "text_deleted" (st 52) N cP (R 435),T0,F0,Tn ["buffer","start","end","low","high"] 784,T0,aH "need_range" (st 54),aE "need_range" 781 330 3 3 437 true 438 (R 439) (R 440) (R 441) 789 790,aG "need_range" (st 54) N mj (R 442),T0,F0,Tn ["buffer","begin","end","old","new","number"] 795,T0,aH "told_undo" (st 55),aE "told_undo" 792 335 5 3 444 true 445 (R 446) (R 447) (R 448) 801 802,aG "told_undo" (st 55) N mj (R 449),T0,F0,Tn ["buffer"] 807,T0,aH "need_writable_props" (st 56),aE "need_writable_props" 804 340 1 3 451 true 452 (R 453) (R 454) (R 455) 808 809,aG "need_writable_props" (st 56) N mj (R 456),T0]
def Rh(P:Params):List Obj:=[
 F0,aH "turn_rows" (st 57),aE "turn_rows" 811 343 4 3 458 true 459 N N (R 460) 814 815,aG "turn_rows" (st 57) N mj (R 461),T0,F0,Tn ["buffer","start","end","number","value"] 820,Tn ["number","value"] 825,aH "put" (st 58),aE "put" 817 362 5 3 463 true 464 (R 465) (R 466) (R 467) 827 828,aG "put" (st 58) N mj (R 468),T0,F0,Tn ["buffer","start","end","plist"] 833,Tn ["plist"] 837,aH "put_all" (st 59),aE "put_all" 830 364 4 3 470 true 471 (R 472) (R 473) (R 474) 838 839,aG "put_all" (st 59) N mj (R 475),T0,F0,Tn ["buffer","start","end","numbers"] 844,Tn ["numbers"] 848,aH "remove" (st 60),aE "remove" 841 368 4 3 477 true 478 (R 479) (R 480) (R 481) 849 850,aG "remove" (st 60) N mj (R 482),T0,X "builtin_function_or_method" [Bi "type.__prepare__",Ty "type"],D P [("__module__",861,gB),("__qualname__",863,S "GapText" 862),("__firstlineno__",865,It 371 864),("__init__",874,R 497),("size",881,R 504),("code",889,R 511),("codes",899,R 518),("move_gap",908,R 525),("widen_gap",917,R 532),("insert",926,R 539),("delete",936,R 546),("put",945,R 553),("narrow_gap",952,R 560),("is_whole",959,R 567),("__static_attributes__",964,R 568)] 15,T0,F [I 373,I 4,R 496,I 379,I 4,R 503,I 382,I 4,R 510,I 387,I 4,R 517,I 395,I 4,R 524,I 406,I 4,R 531,I 412,I 4,R 538,I 418,I 4,R 545,I 428,I 4,R 552,I 431,I 4,R 559,I 434,I 4,R 566],aE "GapText" 856 371 0 0 487 false 488 N N N 859 860,Fm [some (R 489),some (R 3),some (R 486),none,some gB,none,some (R 0)]]
def Ri(P:Params):List Obj:=[
 T0,F0,Tn ["self","codes","room"] 869,T0,Fh "__init__" "GapText.__init__" (su 62 0),Co "__init__" "GapText.__init__" 866 373 3 3 491 true 492 (R 493) (R 494) (R 495) 872 873,Fn "__init__" "GapText.__init__" (su 62 0) N gB (R 496),T0,F0,Tn ["self"] 878,T0,Fh "size" "GapText.size" (su 62 1),Co "size" "GapText.size" 875 379 1 3 498 true 499 (R 500) (R 501) (R 502) 879 880,Fn "size" "GapText.size" (su 62 1) N gB (R 503),T0,F0,Tn ["self","at"] 885,T0,Fh "code" "GapText.code" (su 62 2),Co "code" "GapText.code" 882 382 2 3 505 true 506 (R 507) (R 508) (R 509) 887 888,Fn "code" "GapText.code" (su 62 2) N gB (R 510),T0,F0,Tn ["self","start","end","shift"] 893,T0,Fh "codes" "GapText.codes" (su 62 3),Co "codes" "GapText.codes" 890 387 3 3 512 true 513 (R 514) (R 515) (R 516) 897 898,Fn "codes" "GapText.codes" (su 62 3) N gB (R 517),T0,F0,Tn ["self","at","moved"] 903,T0]
def Rj(P:Params):List Obj:=[
 Fh "move_gap" "GapText.move_gap" (su 62 4),Co "move_gap" "GapText.move_gap" 900 395 2 3 519 true 520 (R 521) (R 522) (R 523) 906 907,Fn "move_gap" "GapText.move_gap" (su 62 4) N gB (R 524),T0,F0,Tn ["self","wanted","lack"] 912,T0,Fh "widen_gap" "GapText.widen_gap" (su 62 5),Co "widen_gap" "GapText.widen_gap" 909 406 2 3 526 true 527 (R 528) (R 529) (R 530) 915 916,Fn "widen_gap" "GapText.widen_gap" (su 62 5) N gB (R 531),T0,F0,Tn ["self","at","codes"] 921,T0,Fh "insert" "GapText.insert" (su 62 6),Co "insert" "GapText.insert" 918 412 3 3 533 true 534 (R 535) (R 536) (R 537) 924 925,Fn "insert" "GapText.insert" (su 62 6) N gB (R 538),T0,F0,Tn ["self","start","end","gone"] 930,T0,Fh "delete" "GapText.delete" (su 62 7),Co "delete" "GapText.delete" 927 418 3 3 540 true 541 (R 542) (R 543) (R 544) 934 935,Fn "delete" "GapText.delete" (su 62 7) N gB (R 545),T0,F0,Tn ["self","at","code"] 940,T0,Fh "put" "GapText.put" (su 62 8),Co "put" "GapText.put" 937 428 3 3 547 true 548 (R 549) (R 550) (R 551) 943 944,Fn "put" "GapText.put" (su 62 8) N gB (R 552),T0]
def Rk(P:Params):List Obj:=[
 F0,Tn ["self"] 949,T0,Fh "narrow_gap" "GapText.narrow_gap" (su 62 9),Co "narrow_gap" "GapText.narrow_gap" 946 431 1 3 554 true 555 (R 556) (R 557) (R 558) 950 951,Fn "narrow_gap" "GapText.narrow_gap" (su 62 9) N gB (R 559),T0,F0,Tn ["self"] 956,T0,Fh "is_whole" "GapText.is_whole" (su 62 10),Co "is_whole" "GapText.is_whole" 953 434 1 3 561 true 562 (R 563) (R 564) (R 565) 957 958,Fn "is_whole" "GapText.is_whole" (su 62 10) N gB (R 566),Tn ["cells","gap_end","gap_start","room"] 960,D P [("__module__",861,gB),("__firstlineno__",865,It 371 864),("__init__",874,R 497),("size",881,R 504),("code",889,R 511),("codes",899,R 518),("move_gap",908,R 525),("widen_gap",917,R 532),("insert",926,R 539),("delete",936,R 546),("put",945,R 553),("narrow_gap",952,R 560),("is_whole",959,R 567),("__static_attributes__",964,R 568),("__dict__",966,R 571),("__weakref__",968,R 572),("__doc__",969,N)] 4,Cl "GapText" "GapText" [Ty "object"] [R 570,Ty "object"] 569 [] [none,none,some (S "GapText" 854),some (S "GapText" 862),some (Bi "object.__new__"),some (B true)],X "getset_descriptor" [S "__dict__" 965,R 570,Bi "function.__dict__",Bi "function.__dict__#set"],X "getset_descriptor" [S "__weakref__" 967,R 570,Bi "ExceptionGroup.__weakref__",N],X "super" [R 570,R 570,R 570],X "builtin_function_or_method" [Bi "object.__init_subclass__",R 570],T0,X "builtin_function_or_method" [Bi "type.__prepare__",Ty "type"],D P [("__module__",981,mi),("__qualname__",983,S "Markers" 982),("__firstlineno__",985,It 437 984),("__init__",992,R 588),("numbers",999,R 595),("put",1008,R 602),("drop",1016,R 609),("within",1027,R 616),("inserted",1039,R 623),("deleted",1050,R 630),("replaced",1060,R 637),("__static_attributes__",1062,R 638)] 12,T0,F [I 439,I 4,R 587,I 442,I 4,R 594,I 445,I 4,R 601,I 449,I 4,R 608,I 452,I 4,R 615,I 459,I 4,R 622,I 465,I 4,R 629,I 473,I 4,R 636],aE "Markers" 976 437 0 0 578 false 579 N N N 979 980,Fm [some (R 580),some (R 3),some (R 577),none,some mi,none,some (R 0)],
 T0,F0,Tn ["self"] 989,T0,Fh "__init__" "Markers.__init__" (su 64 0)]
def Rl(P:Params):List Obj:=[
 Co "__init__" "Markers.__init__" 986 439 1 3 582 true 583 (R 584) (R 585) (R 586) 990 991,Fn "__init__" "Markers.__init__" (su 64 0) N mi (R 587),T0,F0,Tn ["self"] 996,T0,Fh "numbers" "Markers.numbers" (su 64 1),Co "numbers" "Markers.numbers" 993 442 1 3 589 true 590 (R 591) (R 592) (R 593) 997 998,Fn "numbers" "Markers.numbers" (su 64 1) N mi (R 594),T0,F0,Tn ["self","marker","position"] 1003,T0,Fh "put" "Markers.put" (su 64 2),Co "put" "Markers.put" 1000 445 3 3 596 true 597 (R 598) (R 599) (R 600) 1006 1007,Fn "put" "Markers.put" (su 64 2) N mi (R 601),T0,F0,Tn ["self","marker"] 1012,T0,Fh "drop" "Markers.drop" (su 64 3),Co "drop" "Markers.drop" 1009 449 2 3 603 true 604 (R 605) (R 606) (R 607) 1014 1015,Fn "drop" "Markers.drop" (su 64 3) N mi (R 608),T0,F0,Tn ["self","start","end","found","number"] 1020,T0,Fh "within" "Markers.within" (su 64 4),Co "within" "Markers.within" 1017 452 3 3 610 true 611 (R 612) (R 613) (R 614) 1025 1026,Fn "within" "Markers.within" (su 64 4) N mi (R 615),T0,F0]
def Rm(P:Params):List Obj:=[
 Tn ["self","start","end","is_before","number","marker"] 1031,T0,Fh "inserted" "Markers.inserted" (su 64 5),Co "inserted" "Markers.inserted" 1028 459 4 3 617 true 618 (R 619) (R 620) (R 621) 1037 1038,Fn "inserted" "Markers.inserted" (su 64 5) N mi (R 622),T0,F0,Tn ["self","start","end","number","marker"] 1043,T0,Fh "deleted" "Markers.deleted" (su 64 6),Co "deleted" "Markers.deleted" 1040 465 3 3 624 true 625 (R 626) (R 627) (R 628) 1048 1049,Fn "deleted" "Markers.deleted" (su 64 6) N mi (R 629),T0,F0,Tn ["self","start","end","many"] 1054,T0,Fh "replaced" "Markers.replaced" (su 64 7),Co "replaced" "Markers.replaced" 1051 473 4 3 631 true 632 (R 633) (R 634) (R 635) 1058 1059,Fn "replaced" "Markers.replaced" (su 64 7) N mi (R 636),Tn ["rows"] 1061,D P [("__module__",981,mi),("__firstlineno__",985,It 437 984),("__init__",992,R 588),("numbers",999,R 595),("put",1008,R 602),("drop",1016,R 609),("within",1027,R 616),("inserted",1039,R 623),("deleted",1050,R 630),("replaced",1060,R 637),("__static_attributes__",1062,R 638),("__dict__",1064,R 641),("__weakref__",1066,R 642),("__doc__",1067,N)] 4,Cl "Markers" "Markers" [Ty "object"] [R 640,Ty "object"] 639 [] [none,none,some (S "Markers" 974),some (S "Markers" 982),some (Bi "object.__new__"),some (B true)],X "getset_descriptor" [S "__dict__" 1063,R 640,Bi "function.__dict__",Bi "function.__dict__#set"],X "getset_descriptor" [S "__weakref__" 1065,R 640,Bi "ExceptionGroup.__weakref__",N],X "super" [R 640,R 640,R 640],X "builtin_function_or_method" [Bi "object.__init_subclass__",R 640],T0,X "builtin_function_or_method" [Bi "type.__prepare__",Ty "type"],D P [("__module__",1079,uE),("__qualname__",1081,S "Opaque" 1080),("__firstlineno__",1083,It 476 1082),("shown",1090,R 658),("kind",1097,R 665),("same_as",1105,R 672),("__static_attributes__",1106,R 673)] 7,T0,F [I 478,I 4,R 657,I 481,I 4,R 664,I 484,I 4,R 671],aE "Opaque" 1074 476 0 0 648 false 649 N N N 1077 1078]
def Rn(P:Params):List Obj:=[
 Fm [some (R 650),some (R 3),some (R 647),none,some uE,none,some (R 0)],T0,F0,Tn ["self"] 1087,T0,Fh "shown" "Opaque.shown" (su 66 0),Co "shown" "Opaque.shown" 1084 478 1 3 652 true 653 (R 654) (R 655) (R 656) 1088 1089,Fn "shown" "Opaque.shown" (su 66 0) N uE (R 657),T0,F0,Tn ["self"] 1094,T0,Fh "kind" "Opaque.kind" (su 66 1),Co "kind" "Opaque.kind" 1091 481 1 3 659 true 660 (R 661) (R 662) (R 663) 1095 1096,Fn "kind" "Opaque.kind" (su 66 1) N uE (R 664),T0,F0,Tn ["self","other"] 1101,T0,Fh "same_as" "Opaque.same_as" (su 66 2),Co "same_as" "Opaque.same_as" 1098 484 2 3 666 true 667 (R 668) (R 669) (R 670) 1103 1104,Fn "same_as" "Opaque.same_as" (su 66 2) N uE (R 671),T0,D P [("__module__",1079,uE),("__firstlineno__",1083,It 476 1082),("shown",1090,R 658),("kind",1097,R 665),("same_as",1105,R 672),("__static_attributes__",1106,R 673),("__dict__",1108,R 676),("__weakref__",1110,R 677),("__doc__",1111,N)] 4,Cl "Opaque" "Opaque" [Ty "object"] [R 675,Ty "object"] 674 [R 781] [none,none,some (S "Opaque" 1072),some (S "Opaque" 1080),some (Bi "object.__new__"),some (B true)],X "getset_descriptor" [S "__dict__" 1107,R 675,Bi "function.__dict__",Bi "function.__dict__#set"],X "getset_descriptor" [S "__weakref__" 1109,R 675,Bi "ExceptionGroup.__weakref__",N],X "super" [R 675,R 675,R 675],X "builtin_function_or_method" [Bi "object.__init_subclass__",R 675],T [R 675],X "builtin_function_or_method" [Bi "type.__prepare__",Ty "type"],D P [("__module__",1123,eX),("__qualname__",1125,S "Buffer" 1124),("__firstlineno__",1127,It 487 1126),("__init__",1138,R 694),("shown",1145,R 701),("kind",1152,R 708),("begin",1159,R 715),("end",1166,R 722),("size",1173,R 729),("code_at",1181,R 736),("codes",1190,R 743),("goto",1198,R 750),("tick",1205,R 757),("is_modified",1212,R 764),("set_modified",1220,R 771),("touch",1228,R 778),("__static_attributes__",1249,R 779)] 17]
def Ro(P:Params):List Obj:=[
 T0,F [I 489,I 4,R 693,I 511,I 4,R 700,I 514,I 4,R 707,I 517,I 4,R 714,I 520,I 4,R 721,I 523,I 4,R 728,I 526,I 4,R 735,I 529,I 4,R 742,I 532,I 4,R 749,I 536,I 4,R 756,I 539,I 4,R 763,I 542,I 4,R 770,I 548,I 4,R 777],aE "Buffer" 1118 487 0 0 683 false 684 N N N 1121 1122,Fm [some (R 685),some (R 3),some (R 682),none,some eX,none,some (R 0)],T [It 8 1128],T0,F0,Tn ["self","number","name","room"] 1132,T0,Fh "__init__" "Buffer.__init__" (su 68 0),Co "__init__" "Buffer.__init__" 1129 489 4 3 688 true 689 (R 690) (R 691) (R 692) 1136 1137,Fn "__init__" "Buffer.__init__" (su 68 0) (R 687) eX (R 693),T0,F0,Tn ["self"] 1142,T0,Fh "shown" "Buffer.shown" (su 68 1),Co "shown" "Buffer.shown" 1139 511 1 3 695 true 696 (R 697) (R 698) (R 699) 1143 1144,Fn "shown" "Buffer.shown" (su 68 1) N eX (R 700),T0,F0,Tn ["self"] 1149,T0,Fh "kind" "Buffer.kind" (su 68 2),Co "kind" "Buffer.kind" 1146 514 1 3 702 true 703 (R 704) (R 705) (R 706) 1150 1151,Fn "kind" "Buffer.kind" (su 68 2) N eX (R 707),T0,F0,Tn ["self"] 1156,T0,Fh "begin" "Buffer.begin" (su 68 3),Co "begin" "Buffer.begin" 1153 517 1 3 709 true 710 (R 711) (R 712) (R 713) 1157 1158]
def Rp(P:Params):List Obj:=[
 Fn "begin" "Buffer.begin" (su 68 3) N eX (R 714),T0,F0,Tn ["self"] 1163,T0,Fh "end" "Buffer.end" (su 68 4),Co "end" "Buffer.end" 1160 520 1 3 716 true 717 (R 718) (R 719) (R 720) 1164 1165,Fn "end" "Buffer.end" (su 68 4) N eX (R 721),T0,F0,Tn ["self"] 1170,T0,Fh "size" "Buffer.size" (su 68 5),Co "size" "Buffer.size" 1167 523 1 3 723 true 724 (R 725) (R 726) (R 727) 1171 1172,Fn "size" "Buffer.size" (su 68 5) N eX (R 728),T0,F0,Tn ["self","place"] 1177,T0,Fh "code_at" "Buffer.code_at" (su 68 6),Co "code_at" "Buffer.code_at" 1174 526 2 3 730 true 731 (R 732) (R 733) (R 734) 1179 1180,Fn "code_at" "Buffer.code_at" (su 68 6) N eX (R 735),T0,F0,Tn ["self","start","end"] 1185,T0,Fh "codes" "Buffer.codes" (su 68 7),Co "codes" "Buffer.codes" 1182 529 3 3 737 true 738 (R 739) (R 740) (R 741) 1188 1189,Fn "codes" "Buffer.codes" (su 68 7) N eX (R 742),T0,F0,Tn ["self","place"] 1194]
def Rq(P:Params):List Obj:=[
 T0,Fh "goto" "Buffer.goto" (su 68 8),Co "goto" "Buffer.goto" 1191 532 2 3 744 true 745 (R 746) (R 747) (R 748) 1196 1197,Fn "goto" "Buffer.goto" (su 68 8) N eX (R 749),T0,F0,Tn ["self"] 1202,T0,Fh "tick" "Buffer.tick" (su 68 9),Co "tick" "Buffer.tick" 1199 536 1 3 751 true 752 (R 753) (R 754) (R 755) 1203 1204,Fn "tick" "Buffer.tick" (su 68 9) N eX (R 756),T0,F0,Tn ["self"] 1209,T0,Fh "is_modified" "Buffer.is_modified" (su 68 10),Co "is_modified" "Buffer.is_modified" 1206 539 1 3 758 true 759 (R 760) (R 761) (R 762) 1210 1211,Fn "is_modified" "Buffer.is_modified" (su 68 10) N eX (R 763),T0,F0,Tn ["self","is_so"] 1216,T0,Fh "set_modified" "Buffer.set_modified" (su 68 11),Co "set_modified" "Buffer.set_modified" 1213 542 2 3 765 true 766 (R 767) (R 768) (R 769) 1218 1219,Fn "set_modified" "Buffer.set_modified" (su 68 11) N eX (R 770),T0,F0,Tn ["self","are_codes"] 1224,T0,Fh "touch" "Buffer.touch" (su 68 12),Co "touch" "Buffer.touch" 1221 548 2 3 772 true 773 (R 774) (R 775) (R 776) 1226 1227,Fn "touch" "Buffer.touch" (su 68 12) N eX (R 777)]
def Rr(P:Params):List Obj:=[
 Tn ["begv","codes_ticks","file","is_live","is_read_only","listeners","locals","mark","markers","name","number","overlays","point","props","saved_ticks","syntax","text","ticks","undo","zv"] 1229,D P [("__module__",1123,eX),("__firstlineno__",1127,It 487 1126),("__init__",1138,R 694),("shown",1145,R 701),("kind",1152,R 708),("begin",1159,R 715),("end",1166,R 722),("size",1173,R 729),("code_at",1181,R 736),("codes",1190,R 743),("goto",1198,R 750),("tick",1205,R 757),("is_modified",1212,R 764),("set_modified",1220,R 771),("touch",1228,R 778),("__static_attributes__",1249,R 779),("__doc__",1250,N)] 2,Cl "Buffer" "Buffer" [R 675] [R 781,R 675,Ty "object"] 780 [] [some (R 680),none,some (S "Buffer" 1116),some (S "Buffer" 1124),some (Bi "object.__new__"),some (B true)],X "super" [R 781,R 781,R 781],X "builtin_function_or_method" [Bi "object.__init_subclass__",R 781],T0,F0,Tn ["buffer"] 1258,T0,aH "need_writable" (st 70),aE "need_writable" 1255 553 1 3 784 true 785 (R 786) (R 787) (R 788) 1259 1260,aG "need_writable" (st 70) N gC (R 789),T0,F0,Tn ["buffer","start","end","low","high"] 1265,T0,aH "reached" (st 71),aE "reached" 1262 556 3 3 791 true 792 (R 793) (R 794) (R 795) 1270 1271,aG "reached" (st 71) N gC (R 796),T0,F0,Tn ["buffer","start","end","listener"] 1276,T0,aH "tell_ahead" (st 72),aE "tell_ahead" 1273 561 3 3 798 true 799 (R 800) (R 801) (R 802) 1280 1281,aG "tell_ahead" (st 72) N gC (R 803),T0,F0,Tn ["buffer","start","end","old_length","listener"] 1286,T0,aH "tell_behind" (st 73),aE "tell_behind" 1283 564 4 3 805 true 806 (R 807) (R 808) (R 809) 1291 1292]
def Rt(P:Params):List Obj:=[
 aG "tell_behind" (st 73) N gC (R 810),T0,F0,Tn ["buffer","start","end","gone"] 1297,T0,aH "text_out" (st 74),aE "text_out" 1294 568 3 3 812 true 813 (R 814) (R 815) (R 816) 1301 1302,aG "text_out" (st 74) N gC (R 817),T0,F0,Tn ["buffer","place","codes"] 1307,T0,aH "text_in" (st 75),aE "text_in" 1304 576 3 3 819 true 820 (R 821) (R 822) (R 823) 1310 1311,aG "text_in" (st 75) N gC (R 824),T0,F0,Tn ["buffer","start","end"] 1316,T0,aH "hung_out" (st 76),aE "hung_out" 1313 583 3 3 826 true 827 (R 828) (R 829) (R 830) 1319 1320,aG "hung_out" (st 76) N gC (R 831),T0,F0,Tn ["buffer","place","many","before_markers"] 1325,T0,aH "hung_in" (st 77),aE "hung_in" 1322 588 4 3 833 true 834 (R 835) (R 836) (R 837) 1329 1330,aG "hung_in" (st 77) N gC (R 838),T0,F0,Tn ["buffer","place","codes","before_markers","is_point_behind"] 1335]
def Ru(P:Params):List Obj:=[
 T0,aH "put_in" (st 78),aE "put_in" 1332 593 5 3 840 true 841 (R 842) (R 843) (R 844) 1340 1341,aG "put_in" (st 78) N gC (R 845),T [B false],T0,F0,Tn ["buffer","codes","before_markers"] 1346,T0,aH "insert" (st 79),aE "insert" 1343 605 3 3 848 true 849 (R 850) (R 851) (R 852) 1349 1350,aG "insert" (st 79) (R 847) gC (R 853),T0,F0,Tn ["buffer","start","end","low","high","gone"] 1355,T0,aH "delete" (st 80),aE "delete" 1352 607 3 3 855 true 856 (R 857) (R 858) (R 859) 1361 1362,aG "delete" (st 80) N gC (R 860),T0,F0,aH "plist_rows" (st 82),aE "plist_rows" 1366 619 3 3 862 true 863 N N (R 864) 1369 1370,aG "plist_rows" (st 82) N rA (R 865),T0,F0,aH "insert_piece" (st 83),aE "insert_piece" 1372 623 2 3 867 true 868 N N (R 869) 1375 1376,aG "insert_piece" (st 83) N rA (R 870),T0,F0,Tn ["elder","plist","number","found"] 1381]
def Rv(P:Params):List Obj:=[
 T0,aH "is_value" (st 84),aE "is_value" 1378 630 3 3 872 true 873 (R 874) (R 875) (R 876) 1385 1386,aG "is_value" (st 84) N rA (R 877),T0,F0,aH "set_property" (st 85),aE "set_property" 1388 635 5 3 879 true 880 N N (R 881) 1391 1392,aG "set_property" (st 85) N rA (R 882),Tn ["boundary"] 1396,T0,X "builtin_function_or_method" [Bi "type.__prepare__",Ty "type"],D P [("__module__",1405,me),("__qualname__",1407,S "UndoList" 1406),("__firstlineno__",1409,It 654 1408),("__init__",1416,R 898),("count",1423,R 905),("is_at_boundary",1430,R 912),("boundary",1437,R 919),("begin_command",1445,R 926),("note_state",1454,R 933),("note_insert",1467,R 940),("note_delete",1483,R 947),("note_property",1496,R 954),("renew_unmodified",1502,R 959),("clear",1509,R 966),("__static_attributes__",1515,R 967)] 15,T0,F [I 656,I 4,R 897,I 663,I 4,R 904,I 666,I 4,R 911,I 669,I 4,R 918,I 673,I 4,R 925,I 676,I 4,R 932,I 681,I 4,R 939,I 691,I 4,R 946,I 703,I 4,R 953,I 708,I 4,R 958,I 712,I 4,R 965],aE "UndoList" 1400 654 0 0 888 false 889 N N N 1403 1404,Fm [some (R 890),some (R 3),some (R 887),none,some me,none,some (R 0)],T0,F0,Tn ["self"] 1413,T0,Fh "__init__" "UndoList.__init__" (su 88 0),Co "__init__" "UndoList.__init__" 1410 656 1 3 892 true 893 (R 894) (R 895) (R 896) 1414 1415,Fn "__init__" "UndoList.__init__" (su 88 0) N me (R 897),T0,F0,Tn ["self"] 1420,T0,Fh "count" "UndoList.count" (su 88 1),Co "count" "UndoList.count" 1417 663 1 3 899 true 900 (R 901) (R 902) (R 903) 1421 1422,Fn "count" "UndoList.count" (su 88 1) N me (R 904),T0]
def Rw(P:Params):List Obj:=[
 F0,Tn ["self"] 1427,T0,Fh "is_at_boundary" "UndoList.is_at_boundary" (su 88 2),Co "is_at_boundary" "UndoList.is_at_boundary" 1424 666 1 3 906 true 907 (R 908) (R 909) (R 910) 1428 1429,Fn "is_at_boundary" "UndoList.is_at_boundary" (su 88 2) N me (R 911),T0,F0,Tn ["self"] 1434,T0,Fh "boundary" "UndoList.boundary" (su 88 3),Co "boundary" "UndoList.boundary" 1431 669 1 3 913 true 914 (R 915) (R 916) (R 917) 1435 1436,Fn "boundary" "UndoList.boundary" (su 88 3) N me (R 918),T0,F0,Tn ["self","point"] 1441,T0,Fh "begin_command" "UndoList.begin_command" (su 88 4),Co "begin_command" "UndoList.begin_command" 1438 673 2 3 920 true 921 (R 922) (R 923) (R 924) 1443 1444,Fn "begin_command" "UndoList.begin_command" (su 88 4) N me (R 925),T0,F0,Tn ["self","is_modified","tick"] 1449,T0,Fh "note_state" "UndoList.note_state" (su 88 5),Co "note_state" "UndoList.note_state" 1446 676 3 3 927 true 928 (R 929) (R 930) (R 931) 1452 1453,Fn "note_state" "UndoList.note_state" (su 88 5) N me (R 932),T0,F0,Tn ["self","start","many","point","is_modified","tick","last"] 1458,T0,Fh "note_insert" "UndoList.note_insert" (su 88 6)]
def Rx(P:Params):List Obj:=[
 Co "note_insert" "UndoList.note_insert" 1455 681 6 3 934 true 935 (R 936) (R 937) (R 938) 1465 1466,Fn "note_insert" "UndoList.note_insert" (su 88 6) N me (R 939),T0,F0,Tn ["self","start","piece","point","markers","is_modified","tick","is_first","marker","distance"] 1471,T0,Fh "note_delete" "UndoList.note_delete" (su 88 7),Co "note_delete" "UndoList.note_delete" 1468 691 7 3 941 true 942 (R 943) (R 944) (R 945) 1481 1482,Fn "note_delete" "UndoList.note_delete" (su 88 7) N me (R 946),T0,F0,Tn ["self","start","end","number","elder","is_modified","tick"] 1487,T0,Fh "note_property" "UndoList.note_property" (su 88 8),Co "note_property" "UndoList.note_property" 1484 703 7 3 948 true 949 (R 950) (R 951) (R 952) 1494 1495,Fn "note_property" "UndoList.note_property" (su 88 8) N me (R 953),T0,F0,Fh "renew_unmodified" "UndoList.renew_unmodified" (su 88 9),Co "renew_unmodified" "UndoList.renew_unmodified" 1497 708 3 3 955 true 956 N N (R 957) 1500 1501,Fn "renew_unmodified" "UndoList.renew_unmodified" (su 88 9) N me (R 958),T0,F0,Tn ["self"] 1506,T0,Fh "clear" "UndoList.clear" (su 88 10),Co "clear" "UndoList.clear" 1503 712 1 3 960 true 961 (R 962) (R 963) (R 964) 1507 1508,Fn "clear" "UndoList.clear" (su 88 10) N me (R 965),Tn ["dropped","is_on","noted_tick","point_before","rows"] 1510,D P [("__module__",1405,me),("__firstlineno__",1409,It 654 1408),("__init__",1416,R 898),("count",1423,R 905),("is_at_boundary",1430,R 912),("boundary",1437,R 919),("begin_command",1445,R 926),("note_state",1454,R 933),("note_insert",1467,R 940),("note_delete",1483,R 947),("note_property",1496,R 954),("renew_unmodified",1502,R 959),("clear",1509,R 966),("__static_attributes__",1515,R 967),("__dict__",1517,R 970),("__weakref__",1519,R 971),("__doc__",1520,N)] 4,Cl "UndoList" "UndoList" [Ty "object"] [R 969,Ty "object"] 968 [] [none,none,some (S "UndoList" 1398),some (S "UndoList" 1406),some (Bi "object.__new__"),some (B true)],
 X "getset_descriptor" [S "__dict__" 1516,R 969,Bi "function.__dict__",Bi "function.__dict__#set"]]
def Ry(P:Params):List Obj:=[
 X "getset_descriptor" [S "__weakref__" 1518,R 969,Bi "ExceptionGroup.__weakref__",N],X "super" [R 969,R 969,R 969],X "builtin_function_or_method" [Bi "object.__init_subclass__",R 969],T0,F0,Tn ["place","start","end","is_advancing"] 1526,T0,aH "marker_distance" (st 89),aE "marker_distance" 1523 714 4 3 974 true 975 (R 976) (R 977) (R 978) 1530 1531,aG "marker_distance" (st 89) N me (R 979),T0,F0,Tn ["buffer","start","end"] 1538,T0,aH "need_visible" (st 91),aE "need_visible" 1535 719 3 3 981 true 982 (R 983) (R 984) (R 985) 1541 1542,aG "need_visible" (st 91) N ly (R 986),T0,F0,Tn ["rows","at","found"] 1547,T0,aH "markers_ahead" (st 92),aE "markers_ahead" 1544 722 2 3 988 true 989 (R 990) (R 991) (R 992) 1550 1551,aG "markers_ahead" (st 92) N ly (R 993),T0,F0,Tn ["buffer","row"] 1556,T0,aH "undo_insert" (st 93),aE "undo_insert" 1553 728 2 3 995 true 996 (R 997) (R 998) (R 999) 1558 1559,aG "undo_insert" (st 93) N ly (R 1000),T0]
def Rz(P:Params):List Obj:=[
 F0,Tn ["buffer","row","marker_rows","valid","word","marker","distance"] 1564,T0,aH "undo_delete" (st 94),aE "undo_delete" 1561 732 3 3 1002 true 1003 (R 1004) (R 1005) (R 1006) 1571 1572,aG "undo_delete" (st 94) N ly (R 1007),T0,F0,Tn ["buffer","rows","at","row","marker_rows"] 1577,T0,aH "undo_row" (st 95),aE "undo_row" 1574 744 3 3 1009 true 1010 (R 1011) (R 1012) (R 1013) 1582 1583,aG "undo_row" (st 95) N ly (R 1014),T0,F0,Tn ["rows","at"] 1588,T0,aH "above_boundaries" (st 96),aE "above_boundaries" 1585 763 2 3 1016 true 1017 (R 1018) (R 1019) (R 1020) 1590 1591,aG "above_boundaries" (st 96) N ly (R 1021),T0,F0,Tn ["buffer","rows","at"] 1596,T0,aH "undo_group" (st 97),aE "undo_group" 1593 767 3 3 1023 true 1024 (R 1025) (R 1026) (R 1027) 1599 1600,aG "undo_group" (st 97) N ly (R 1028),T0,X "builtin_function_or_method" [Bi "type.__prepare__",Ty "type"],D P [("__module__",1611,wd),("__qualname__",1613,S "Piece" 1612),("__firstlineno__",1615,It 773 1614),("__init__",1624,R 1043),("__static_attributes__",1627,R 1044)] 5,T0,F [I 775,I 4,R 1042]]
def RA(P:Params):List Obj:=[
 aE "Piece" 1606 773 0 0 1033 false 1034 N N N 1609 1610,Fm [some (R 1035),some (R 3),some (R 1032),none,some wd,none,some (R 0)],T0,F0,Tn ["self","codes","runs"] 1619,T0,Fh "__init__" "Piece.__init__" (su 99 0),Co "__init__" "Piece.__init__" 1616 775 3 3 1037 true 1038 (R 1039) (R 1040) (R 1041) 1622 1623,Fn "__init__" "Piece.__init__" (su 99 0) N wd (R 1042),Tn ["codes","runs"] 1625,D P [("__module__",1611,wd),("__firstlineno__",1615,It 773 1614),("__init__",1624,R 1043),("__static_attributes__",1627,R 1044),("__dict__",1629,R 1047),("__weakref__",1631,R 1048),("__doc__",1632,N)] 4,Cl "Piece" "Piece" [Ty "object"] [R 1046,Ty "object"] 1045 [] [none,none,some (S "Piece" 1604),some (S "Piece" 1612),some (Bi "object.__new__"),some (B true)],X "getset_descriptor" [S "__dict__" 1628,R 1046,Bi "function.__dict__",Bi "function.__dict__#set"],X "getset_descriptor" [S "__weakref__" 1630,R 1046,Bi "ExceptionGroup.__weakref__",N],X "super" [R 1046,R 1046,R 1046],X "builtin_function_or_method" [Bi "object.__init_subclass__",R 1046],T0,X "builtin_function_or_method" [Bi "type.__prepare__",Ty "type"],D P [("__module__",1644,ml),("__qualname__",1646,S "Recording" 1645),("__firstlineno__",1648,It 779 1647),("__init__",1655,R 1064),("text_comes",1665,R 1071),("text_goes",1671,R 1076),("property_changes",1683,R 1083),("__static_attributes__",1685,R 1084)] 8,T0,F [I 781,I 4,R 1063,I 784,I 4,R 1070,I 787,I 4,R 1075,I 798,I 4,R 1082],aE "Recording" 1639 779 0 0 1054 false 1055 N N N 1642 1643,Fm [some (R 1056),some (R 3),some (R 1053),none,some ml,none,some (R 0)],T0,F0,Tn ["self"] 1652,T0,Fh "__init__" "Recording.__init__" (su 101 0),Co "__init__" "Recording.__init__" 1649 781 1 3 1058 true 1059 (R 1060) (R 1061) (R 1062) 1653 1654,Fn "__init__" "Recording.__init__" (su 101 0) N ml (R 1063),T0,F0]
def RB(P:Params):List Obj:=[
 Tn ["self","buffer","start","many"] 1659,T0,Fh "text_comes" "Recording.text_comes" (su 101 1),Co "text_comes" "Recording.text_comes" 1656 784 4 3 1065 true 1066 (R 1067) (R 1068) (R 1069) 1663 1664,Fn "text_comes" "Recording.text_comes" (su 101 1) N ml (R 1070),T0,F0,Fh "text_goes" "Recording.text_goes" (su 101 2),Co "text_goes" "Recording.text_goes" 1666 787 4 3 1072 true 1073 N N (R 1074) 1669 1670,Fn "text_goes" "Recording.text_goes" (su 101 2) N ml (R 1075),T0,F0,Tn ["self","buffer","start","end","number","elder"] 1675,T0,Fh "property_changes" "Recording.property_changes" (su 101 3),Co "property_changes" "Recording.property_changes" 1672 798 6 3 1077 true 1078 (R 1079) (R 1080) (R 1081) 1681 1682,Fn "property_changes" "Recording.property_changes" (su 101 3) N ml (R 1082),Tn ["list"] 1684,D P [("__module__",1644,ml),("__firstlineno__",1648,It 779 1647),("__init__",1655,R 1064),("text_comes",1665,R 1071),("text_goes",1671,R 1076),("property_changes",1683,R 1083),("__static_attributes__",1685,R 1084),("__dict__",1687,R 1087),("__weakref__",1689,R 1088),("__doc__",1690,N)] 4,Cl "Recording" "Recording" [Ty "object"] [R 1086,Ty "object"] 1085 [] [none,none,some (S "Recording" 1637),some (S "Recording" 1645),some (Bi "object.__new__"),some (B true)],X "getset_descriptor" [S "__dict__" 1686,R 1086,Bi "function.__dict__",Bi "function.__dict__#set"],X "getset_descriptor" [S "__weakref__" 1688,R 1086,Bi "ExceptionGroup.__weakref__",N],X "super" [R 1086,R 1086,R 1086],X "builtin_function_or_method" [Bi "object.__init_subclass__",R 1086],T0,F0,Tn ["deck","many"] 1698,T0,aH "_law_draw" (st 103),aE "_law_draw" 1695 801 2 3 1091 true 1092 (R 1093) (R 1094) (R 1095) 1700 1701,aG "_law_draw" (st 103) N dS (R 1096),T0]
def RC(P:Params):List Obj:=[
 F0,Tn ["deck","items"] 1706,T0,aH "_law_pick" (st 104),aE "_law_pick" 1703 806 2 3 1098 true 1099 (R 1100) (R 1101) (R 1102) 1708 1709,aG "_law_pick" (st 104) N dS (R 1103),T0,F0,aH "_law_buffer" (st 105),aE "_law_buffer" 1711 808 1 3 1105 true 1106 N N (R 1107) 1714 1715,aG "_law_buffer" (st 105) N dS (R 1108),T0,F0,aH "_law_shown" (st 106),aE "_law_shown" 1717 814 1 3 1110 true 1111 N N (R 1112) 1720 1721,aG "_law_shown" (st 106) N dS (R 1113),T0,F0,Tn ["buffer","deed","signal_here"] 1726,T0,aH "_law_done" (st 107),aE "_law_done" 1723 816 2 3 1115 true 1116 (R 1117) (R 1118) (R 1119) 1729 1730,aG "_law_done" (st 107) N dS (R 1120),T0,F0,aH "_law_turned" (st 108),aE "_law_turned" 1732 825 2 3 1122 true 1123 N N (R 1124) 1735 1736,aG "_law_turned" (st 108) N dS (R 1125),T0,F0,Tn ["dicts","deed","many","is_read_only","found"] 1741,T0]
def RD(P:Params):List Obj:=[
 aH "_law_due" (st 109),aE "_law_due" 1738 835 4 3 1127 true 1128 (R 1129) (R 1130) (R 1131) 1746 1747,aG "_law_due" (st 109) N dS (R 1132),T0,F0,Tn ["deck","many","word","one","other"] 1752,T0,aH "_law_deed" (st 110),aE "_law_deed" 1749 844 2 3 1134 true 1135 (R 1136) (R 1137) (R 1138) 1757 1758,aG "_law_deed" (st 110) N dS (R 1139),T0,F0,aH "law" (st 111),aE "law" 1760 848 1 3 1141 true 1142 N N (R 1143) 1763 1764,aG "law" (st 111) N dS (R 1144)]
def RG(P:Params):List (List Obj):=[QV P,QW P,QX P,QY P,QZ P,Q0 P,Q5 P,Q6 P,Q7 P,Q8 P,Q9 P,Rc P,Rf P,Rg P,Rh P,Ri P,Rj P,Rk P,Rl P,Rm P,Rn P,Ro P,Rp P,Rq P,Rr P,Rt P,Ru P,Rv P,Rw P,Rx P,Ry P,Rz P,RA P,RB P,RC P,RD P]
def RH(P:Params):List Obj:=[boot_o_0 P,boot_o_1 P,boot_o_2 P,boot_o_3 P,boot_o_4 P,boot_o_5 P,boot_o_6 P,boot_o_7 P,boot_o_8 P,boot_o_9 P,boot_o_10 P]
def iU:List (String×Nat×Value):=[
 ("__doc__",166,N),
 ("__package__",167,N),
 ("__loader__",168,Bi "__main__.__loader__#opaque"),
 ("__spec__",169,N),
 ("__annotations__",170,R 6),
 ("__builtins__",171,R 4),
 ("__file__",173,S "/claim/cut.py" 172),
 ("__cached__",174,N),
 ("_wall",193,R 21),
 ("LispSignal",226,R 38),
 ("eq",236,R 48),
 ("plist_find",245,R 55),
 ("plist_get",254,R 62),
 ("plist_with",264,R 69),
 ("plist_without",270,R 74),
 ("holds_pair",280,R 81),
 ("same_plist",290,R 88),
 ("plist_removed",296,R 93),
 ("changed_properties",307,R 100),
 ("Interval",343,R 117),
 ("IntervalTree",373,R 138),
 ("total_of",380,R 149),
 ("own_length",387,R 156),
 ("text_length",394,R 163),
 ("put_in_stead",404,R 170),
 ("set_left",412,R 177),
 ("set_right",420,R 184),
 ("rotate_right",430,R 191),
 ("rotate_left",440,R 198),
 ("right_turn_helps",449,R 205),
 ("left_turn_helps",458,R 212),
 ("settle",470,R 219),
 ("settle_up",478,R 226),
 ("add_above",486,R 233),
 ("find_interval",498,R 240),
 ("leftmost",505,R 247),
 ("rightmost",512,R 254),
 ("following",519,R 261),
 ("preceding",526,R 268),
 ("put_behind",535,R 275),
 ("put_ahead",545,R 282),
 ("split_at",556,R 289),
 ("drop_interval",568,R 296),
 ("insert_interval",579,R 303),
 ("delete_range",590,R 310),
 ("TextProps",675,R 369),
 ("properties_at",683,R 380),
 ("range_nodes",695,R 387),
 ("join_at",707,R 394),
 ("join_range",720,R 401),
 ("set_properties",732,R 408),
 ("rows_between",745,R 415),
 ("rows_between_textprops",746,R 415),
 ("put_rows",758,R 422),
 ("put_rows_textprops",759,R 422),
 ("text_inserted",769,R 429),
 ("text_deleted",778,R 436),
 ("need_range",791,R 443),
 ("told_undo",803,R 450),
 ("need_writable_props",810,R 457),
 ("turn_rows",816,R 462),
 ("put",829,R 469),
 ("put_all",840,R 476),
 ("remove",851,R 483),
 ("GapText",971,R 570),
 ("Markers",1069,R 640),
 ("Opaque",1113,R 675),
 ("Buffer",1252,R 781),
 ("need_writable",1261,R 790),
 ("reached",1272,R 797),
 ("tell_ahead",1282,R 804),
 ("tell_behind",1293,R 811),
 ("text_out",1303,R 818),
 ("text_in",1312,R 825),
 ("hung_out",1321,R 832),
 ("hung_in",1331,R 839),
 ("put_in",1342,R 846),
 ("insert",1351,R 854),
 ("delete",1363,R 861),
 ("plist_rows",1371,R 866),
 ("insert_piece",1377,R 871),
 ("is_value",1387,R 878),
 ("set_property",1393,R 883),
 ("BOUNDARY",1397,R 884),
 ("UndoList",1522,R 969),
 ("marker_distance",1532,R 980),
 ("need_visible",1543,R 987),
 ("markers_ahead",1552,R 994),
 ("undo_insert",1560,R 1001),
 ("undo_delete",1573,R 1008),
 ("undo_row",1584,R 1015),
 ("above_boundaries",1592,R 1022),
 ("undo_group",1601,R 1029),
 ("Piece",1634,R 1046),
 ("Recording",1692,R 1086),
 ("_law_draw",1702,R 1097),
 ("_law_pick",1710,R 1104),
 ("_law_buffer",1716,R 1109),
 ("_law_shown",1722,R 1114),
 ("_law_done",1731,R 1121),
 ("_law_turned",1737,R 1126),
 ("_law_due",1748,R 1133),
 ("_law_deed",1759,R 1140),
 ("law",1765,R 1145)]
def RJ:List Value:=[I 1,I 0,R 20,I 5,I 0,R 27,I 11,I 0,R 47,I 15,I 0,R 54,I 20,I 0,R 61,I 23,I 0,R 68,I 28,I 0,R 73,I 30,I 0,R 80,I 33,I 0,R 87,I 40,I 0,R 92,I 42,I 0,R 99,I 52,I 0,R 106,I 60,I 0,R 127,I 64,I 0,R 148,I 66,I 0,R 155,I 68,I 0,R 162,I 70,I 0,R 169,I 80,I 0,R 176,I 84,I 0,R 183,I 88,I 0,R 190,I 97,I 0,R 197,I 106,I 0,R 204,I 112,I 0,R 211,I 118,I 0,R 218,I 132,I 0,R 225,I 135,I 0,R 232,I 139,I 0,R 239,I 152,I 0,R 246,I 156,I 0,R 253,I 160,I 0,R 260,I 166,I 0,R 267,I 172,I 0,R 274,I 180,I 0,R 281,I 188,I 0,R 288,I 197,I 0,R 295,I 213,I 0,R 302,I 225,I 0,R 309,I 236,I 0,R 316,I 258,I 0,R 379,I 262,I 0,R 386,I 275,I 0,R 393,I 287,I 0,R 400,I 295,I 0,R 407,I 303,I 0,R 414,I 315,I 0,R 421,I 322,I 0,R 428,I 326,I 0,R 435,I 330,I 0,R 442,I 335,I 0,R 449,I 340,I 0,R 456,I 343,I 0,R 461,I 362,I 0,R 468,I 364,I 0,R 475,I 368,I 0,R 482,I 371,I 0,R 489,I 437,I 0,R 580,I 476,I 0,R 650,I 487,I 0,R 685,I 553,I 0,R 789,I 556,I 0,R 796,I 561,I 0,R 803,I 564,I 0,R 810,I 568,I 0,R 817,I 576,I 0,R 824,I 583,I 0,R 831,I 588,I 0,R 838,I 593,I 0,R 845,I 605,I 0,R 853,I 607,I 0,R 860,I 619,I 0,R 865,I 623,I 0,R 870,I 630,I 0,R 877,I 635,I 0,R 882,I 654,I 0,R 890,I 714,I 0,R 979,I 719,I 0,R 986,I 722,I 0,R 993,I 728,I 0,R 1000,I 732,I 0,R 1007,I 744,I 0,R 1014,I 763,I 0,R 1021,I 767,I 0,R 1028,I 773,I 0,R 1035,I 779,I 0,R 1056,I 801,I 0,R 1096,I 806,I 0,R 1103,I 808,I 0,R 1108,I 814,I 0,R 1113,I 816,I 0,R 1120,I 825,I 0,R 1125,I 835,I 0,R 1132,I 844,I 0,R 1139,I 848,I 0,R 1144]
def RK:Obj:=Cl "Opaque" "Opaque" [Ty "object"] [R 675,Ty "object"] 674 [] [none,none,some (S "Opaque" 1072),some (S "Opaque" 1080),some (Bi "object.__new__"),some (B true)]
def RM(P:Params):Obj:=D0 P [("type.__subclasses__.Exception.0",223,I 38),("type.__subclasses__.Exception.n",224,I 1)] 2
def ob(P:Params)(nm:Value)(gk ck:Nat)(w2 w6:Bool)(b:Nat):Obj:=
 match Nat.beq b 3 with
 |true=>D P (("__name__",165,nm)::iU.take gk) (gk+1)
 |false=>match Nat.beq b 12 with
  |true=>F (RJ.take ck)
  |false=>match Nat.blt b 11 with
   |true=>match Nat.beq b 2 && w2 with
    |true=>RM P
    |false=>(RH P).getD b T0
   |false=>match Nat.beq b 675 && w6 with
    |true=>RK
    |false=>((RG P).getD ((b-11) / 32) []).getD ((b-11) % 32) T0
def mk(f:Nat->Obj)(n:Nat):Nat->Nat->Nat->BT
 |0,_,_=>.nil
 |k+1,a,b=>match Nat.blt b n with
  |true=>.node (f b) (mk f n k (2 * a) (a+b)) (mk f n k (2 * a) (2 * a+b))
  |false=>.nil
def oh(P:Params)(n toks:Nat)(nm:Value)(gk ck:Nat)(w2 w6:Bool)(os:OsState):SharedT:=
 ⟨mk (ob P nm gk ck w2 w6) n 12 1 0,n,{},Array.mk [],{},toks,os⟩
def eY:Env:={ scope:=pw.main.scope,locals:=mainNs,globals:=mainNs,cells:=[],code:=.ref 13,frame:=some 14}
def bE:List Stmt:=behindTheImports pw
abbrev cE:Code:=.body bE eY
abbrev tF:List Frame:=[topFrame ⟨0,0,0,0⟩]
def s0(P:Params)(os:OsState):SharedT:=oh P 15 187 (S "__main__" 164) 8 0 false true os
def s1(P:Params)(os:OsState):SharedT:=oh P 122 344 aR 20 36 true true os
def s2(P:Params)(os:OsState):SharedT:=oh P 311 593 cP 45 111 true true os
def s3(P:Params)(os:OsState):SharedT:=oh P 484 854 gB 64 162 true true os
def s4(P:Params)(os:OsState):SharedT:=oh P 575 974 mi 65 165 true true os
def s5(P:Params)(os:OsState):SharedT:=oh P 680 1116 eX 67 171 true true os
def s6(P:Params)(os:OsState):SharedT:=oh P 855 1352 gC 78 204 true false os
def s7(P:Params)(os:OsState):SharedT:=oh P 1030 1604 wd 93 246 true false os
def s8(P:Params)(os:OsState):SharedT:=oh P 1146 1766 dS 104 279 true false os
def b0:List Stmt:=[aw 0,aw 1,aw 2,aw 3,aw 4,aw 5,aw 6,aw 7,aw 8,aw 9,aw 10,aw 11,aw 12,aw 13,aw 14]
def b1:List Stmt:=[aw 15,aw 16,aw 17,aw 18,aw 19,aw 20,aw 21,aw 22,aw 23,aw 24,aw 25,aw 26,aw 27,aw 28,aw 29,aw 30,aw 31,aw 32,aw 33,aw 34,aw 35,aw 36,aw 37,aw 38,aw 39,aw 40]
def b2:List Stmt:=[aw 41,aw 42,aw 43,aw 44,aw 45,aw 46,aw 47,aw 48,aw 49,aw 50,aw 51,aw 52,aw 53,aw 54,aw 55,aw 56,aw 57,aw 58,aw 59,aw 60,aw 61]
def b3:List Stmt:=[aw 62,aw 63]
def b4:List Stmt:=[aw 64,aw 65,aw 66,aw 67]
def b5:List Stmt:=[aw 68,aw 69,aw 70,aw 71,aw 72,aw 73,aw 74,aw 75,aw 76,aw 77,aw 78,aw 79]
def b6:List Stmt:=[aw 80,aw 81,aw 82,aw 83,aw 84,aw 85,aw 86,aw 87,aw 88,aw 89,aw 90,aw 91,aw 92,aw 93,aw 94,aw 95,aw 96,aw 97,aw 98]
def b7:List Stmt:=[aw 99,aw 100,aw 101,aw 102,aw 103,aw 104,aw 105,aw 106,aw 107,aw 108,aw 109,aw 110,aw 111]
def RN(w:World):(λos=>segRunT treeTable pw w 11 (some (.ref 6)) 1 787 (s0 w.params os) (piecesOf b0 eY cE ⟨0,0,0,0⟩ tF))=λos=>some (.next,s1 w.params os,cE,⟨52,0,59,26⟩):=by
 rw[PySem.W.Fast.te10110043849684766642,PySem.W.Fast.te14364793385576792824]
 kernel_rfl
def RP(w:World):(λos=>segRunT treeTable pw w 11 (some (.ref 6)) 1 978 (s1 w.params os) (piecesOf b1 eY cE ⟨52,0,59,26⟩ tF))=λos=>some (.next,s2 w.params os,cE,⟨235,0,235,8⟩):=by
 rw[PySem.W.Fast.te10110043849684766642,PySem.W.Fast.te14364793385576792824]
 kernel_rfl
def RQ(w:World):(λos=>segRunT treeTable pw w 11 (some (.ref 6)) 1 981 (s2 w.params os) (piecesOf b2 eY cE ⟨235,0,235,8⟩ tF))=λos=>some (.next,s3 w.params os,cE,⟨370,0,370,8⟩):=by
 rw[PySem.W.Fast.te10110043849684766642,PySem.W.Fast.te14364793385576792824]
 kernel_rfl
def RT(w:World):(λos=>segRunT treeTable pw w 11 (some (.ref 6)) 1 561 (s3 w.params os) (piecesOf b3 eY cE ⟨370,0,370,8⟩ tF))=λos=>some (.next,s4 w.params os,cE,⟨436,0,436,8⟩):=by
 rw[PySem.W.Fast.te10110043849684766642,PySem.W.Fast.te14364793385576792824]
 kernel_rfl
def RV(w:World):(λos=>segRunT treeTable pw w 11 (some (.ref 6)) 1 759 (s4 w.params os) (piecesOf b4 eY cE ⟨436,0,436,8⟩ tF))=λos=>some (.next,s5 w.params os,cE,⟨486,0,486,8⟩):=by
 rw[PySem.W.Fast.te10110043849684766642,PySem.W.Fast.te14364793385576792824]
 kernel_rfl
def RW(w:World):(λos=>segRunT treeTable pw w 11 (some (.ref 6)) 1 974 (s5 w.params os) (piecesOf b5 eY cE ⟨486,0,486,8⟩ tF))=λos=>some (.next,s6 w.params os,cE,⟨605,0,606,61⟩):=by
 rw[PySem.W.Fast.te10110043849684766642,PySem.W.Fast.te14364793385576792824]
 kernel_rfl
def RX(w:World):(λos=>segRunT treeTable pw w 11 (some (.ref 6)) 1 1001 (s6 w.params os) (piecesOf b6 eY cE ⟨605,0,606,61⟩ tF))=λos=>some (.next,s7 w.params os,cE,⟨772,0,772,8⟩):=by
 rw[PySem.W.Fast.te10110043849684766642,PySem.W.Fast.te14364793385576792824]
 kernel_rfl
def RZ(w:World):(λos=>segRunT treeTable pw w 11 (some (.ref 6)) 1 823 (s7 w.params os) (piecesOf b7 eY cE ⟨772,0,772,8⟩ tF))=λos=>some (.next,s8 w.params os,cE,⟨848,0,872,73⟩):=by
 rw[PySem.W.Fast.te10110043849684766642,PySem.W.Fast.te14364793385576792824]
 kernel_rfl
abbrev S0(w:World)(os:OsState):Shared:=⟨boot_heap w.params,Array.mk [],boot_drawn,boot_toks,os⟩
def pre(w:World):(λos=>topGo treeTable pw w 11 (some (.ref 6)) 12 (S0 w os) (topStub pw))=λos=>some ((s0 w.params os).abs,⟨denote treeTable cE,cE,⟨0,0,0,0⟩,tF⟩):=by
 rw[PySem.W.Fast.te15667345088766844465,PySem.W.Fast.te14364793385576792824,PySem.W.Fast.te11892475500146522536]
 kernel_rfl
def R0(w:World):(λos=>segRun treeTable pw w 11 (some (.ref 6)) 1 1 (s0 w.params os).abs (blockOf bE eY cE ⟨0,0,0,0⟩ tF))=λos=>some (.next,(s0 w.params os).abs,cE,⟨0,0,0,0⟩):=by
 rw[PySem.W.Fast.te14374325043358763698,PySem.W.Fast.te14364793385576792824]
 kernel_rfl
def H1(P:Params):Heap:=(s8 P default).abs.heap
def fin(w:World):(λos=>topRun treeTable pw w 11 (some (.ref 6)) 2 (s8 w.params os).abs ⟨doneF .next,cE,⟨848,0,872,73⟩,tF⟩)=λos=>some ⟨H1 w.params,Array.mk [],{},1766,os⟩:=by
 rw[PySem.W.Fast.te14082659384304107361,PySem.W.Fast.te14364793385576792824]
 kernel_rfl
def R3:bE=b0++(b1++(b2++(b3++(b4++(b5++(b6++(b7++[]))))))):=by kernel_rfl
abbrev M0:Nat:=(12+(1+(787+(978+(981+(561+(759+(974+(1001+(823+2))))))))))
def run(w:World)(os:OsState):topRun treeTable pw w 11 (some (.ref 6)) M0 (S0 w os) (topStub pw)=some ⟨H1 w.params,Array.mk [],{},1766,os⟩:=by
 exact go_top (congrFun (pre w) os) (piece_block (env:=eY) (b:=bE) (congrFun (R0 w) os) ?_);rw[R3];exact piece_app (segRun_of (congrFun (RN w) os)) ?_;exact piece_app (segRun_of (congrFun (RP w) os)) ?_;exact piece_app (segRun_of (congrFun (RQ w) os)) ?_;exact piece_app (segRun_of (congrFun (RT w) os)) ?_;exact piece_app (segRun_of (congrFun (RV w) os)) ?_;exact piece_app (segRun_of (congrFun (RW w) os)) ?_;exact piece_app (segRun_of (congrFun (RX w) os)) ?_;exact piece_app (segRun_of (congrFun (RZ w) os)) ?_;show piece_nil (congrFun (fin w) os)
def R5:opening pw=plainProg pw.main.scope.names:=by kernel_rfl
def R6(s:Shared):fenceModules? pw s=some s:=by kernel_rfl
theorem R7(w:World):(fencedOpening treeTable pw w 20000).map (λs=>(s.heap,s.gens,s.drawn,s.toks))=some (boot_heap w.params,Array.mk [],boot_drawn,boot_toks):=boot_open R5 (by decide +kernel) R6 w
def R8(w:World):((boot_heap w.params).isNs mainGlobals && (Array.mk []:Array GenState).size == 0,(boot_heap w.params).objs.size,(boot_heap w.params).nsMap mainGlobals "__annotations__")=(true,11,some (.ref 6)):=by kernel_rfl
def qv:Program:={ pw with main:={ pw.main with body:=[aw 111]}}
def lz:List Str:=pw.boundNames.filter λn=>!(n == ("law":Str)) && !(n == ("__name__":Str))
def R9(w:World):(λos=>(staticsOk (importedModules pw.main.body) (boot_heap w.params) (H1 w.params) && namesBound pw (H1 w.params) && gensDone ⟨H1 w.params,Array.mk [],{},1766,os⟩ && laidKept (boot_heap w.params) (H1 w.params)))=λ_=>true:=by kernel_rfl
abbrev CV(s:Shared):Bool:=xlAt qv [] s && recOk PySem.Challenge.rw_on0074_01.row.toRowW.records s
def Sb(w:World):(λos=>openSeen qv lz (importedModules pw.main.body) CV true ⟨H1 w.params,Array.mk [],{},1766,os⟩)=λ_=>openGood qv lz:=by
 rw[PySem.W.Fast.te4187177175401517315]
 kernel_rfl
abbrev cC:OpenLaw:=PySem.Challenge.rw_on0074_01
def Sd:noRoadLSs { strict:=!(importedModules cC.row.prog.main.body).all cThrough.contains,foot:=none,bare:=(["vars","dir","locals"]:List Str).filter (readsOut cC.row.prog cC.row.prog.main.body)} cC.row.prog.main.body=true:=by
 rewrite [PySem.W.Fast.te8326940854005059898]
 kernel_rfl
def Sf:namesMeet cC.row.prog cC.row.prog.main.body (λ_ n=>attrL n)=true:=by
 rewrite [PySem.W.Fast.te17119622794617984870]
 kernel_rfl
def Sg:namesResolve cC.row.prog=true:=by
 rewrite [PySem.W.Fast.te8377067652309620493]
 kernel_rfl
def said:cC.wellSaid=true:=by
 unfold OpenLaw.wellSaid OpenRow.wellSaid OpenRow.partSaid looksOpen
 rewrite [Sd,Sf,Sg,PySem.W.Fast.te8326940854005059898,PySem.W.Fast.te17119622794617984870,PySem.W.Fast.te11788848310118352699,PySem.W.Fast.te16286561074155671207,PySem.W.Fast.te8179353310426384613,PySem.W.Fast.te9558739934217749035]
 kernel_rfl
theorem api:LeftO cC.row.prog qv lz CV (λs=>s.heap) (λw=>H1 w.params) 20000:=
 LeftO.of_pieces (p:=pw) (M:=M0) R7 R8 run (by decide +kernel) λw=>by
  funext os
  show Prod.ext (congrFun (R9 w) os) (Prod.ext (congrFun (Sb w) os) rfl)
def rB:DefRec:={ name:="law",params:=kF (aw 111),body:=mU (aw 111),scope:=cg (aw 111),pos:=⟨848,0,872,73⟩}
def CW:defOf qv cC.row.name=some (rB,[]):=by kernel_rfl
def CX:cC.row.prog.theDef cC.row.name=some (rB.params,rB.body,rB.scope):=by kernel_rfl
def Si:kwWritten? rB.params.kwonlyargs rB.params.kw_defaults=some []:=by kernel_rfl
def ak:(chainsOk qv && opensWell cC.row.prog && (frees cC.row.toRowW && cC.row.within.isEmpty))=true:=by decide +kernel
def CY:cC.row.prog.tablesWhole=true:=by decide +kernel
theorem wg:cC.row.prog.bare:=⟨rfl,rfl,rfl,rfl,rfl,CY⟩
theorem Sj:cC.row.toRowW.promised:=⟨[.list []],by decide +kernel,by decide +kernel⟩
abbrev IX:Prop:=WalkO qv lz (XL qv []) (λw h=>(H1 w.params).StaysIn h) cC.row.toRowW rB [] λf vs=>call f vs
theorem head(Sl:IX):PySem.Challenge.rw_on0074_01.Holds:=
 holds_law said λk1=>holds_open (r:=cC.row) (q:=qv) (loose:=lz) (Xt:=CV) (XP:=XL qv []) (Yf:=λs=>s.heap) (Ya:=λw=>H1 w.params) (YP:=λw h=>(H1 w.params).StaysIn h) (N:=20000) api
  (λw s e=>by rw[<-e];show λ_ _ q=>q) (λw h h' y k b o e=>k b o (y b o e)) (λs e=>xl_of s (Bool.and_eq_true_iff.mp e).1) XL.keeps CW CX Si (λs e=>recFacts_of (Bool.and_eq_true_iff.mp e).2) rfl k1 ak wg Sj Sl
end
end Lh.Tactic
namespace Tactic
open PySem PySem.W PySem.Calls PyProof.Rows
theorem aZ:type_of% @Bool.false_ne_true:=@Bool.false_ne_true
theorem ba:type_of% @Bool.and_eq_true:=@Bool.and_eq_true
theorem wb:type_of% @wpAny_bind:=@wpAny_bind
theorem bL:type_of% @List.getElem?_eq_getElem:=@List.getElem?_eq_getElem
theorem aO:type_of% @List.mem_cons:=@List.mem_cons
theorem cf:type_of% @Heap.get?_push_of_some:=@Heap.get?_push_of_some
theorem bR:type_of% @List.all_eq_true:=@List.all_eq_true
theorem bq:type_of% @beq_iff_eq:=@beq_iff_eq
theorem sz:type_of% @List.size_toArray:=@List.size_toArray
theorem nq:type_of% @Nat.eq_of_beq_eq_true:=@Nat.eq_of_beq_eq_true
theorem bH:type_of% @List.mem_append:=@List.mem_append
theorem lc:type_of% @List.lookup_cons:=@List.lookup_cons
theorem bS:type_of% @List.nodup_cons:=@List.nodup_cons
theorem de:type_of% @List.append_nil:=@List.append_nil
theorem iV:type_of% @List.getElem?_eq_none:=@List.getElem?_eq_none
theorem dg:type_of% @List.nodup_append:=@List.nodup_append
theorem bJ:type_of% @List.mem_map:=@List.mem_map
theorem aL:type_of% @wpAny_pure:=@wpAny_pure
theorem bB:type_of% @wpAny_mono:=@wpAny_mono
theorem dT:type_of% @List.length_map:=@List.length_map
theorem dU:type_of% @List.map_cons:=@List.map_cons
theorem iW:type_of% @List.mem_of_getElem?:=@List.mem_of_getElem?
theorem bw:type_of% @Int.toNat_of_nonneg:=@Int.toNat_of_nonneg
theorem aaa:type_of% @Ne.symm:=@Ne.symm
theorem dW:type_of% @Option.some.inj:=@Option.some.inj
theorem gQ:type_of% @List.mem_append_left:=@List.mem_append_left
theorem iJ:type_of% @List.mem_append_right:=@List.mem_append_right
theorem dJ:type_of% @decide_eq_true:=@decide_eq_true
theorem fS:type_of% @decide_eq_false:=@decide_eq_false
theorem ik:type_of% @Heap.get?_push_size:=@Heap.get?_push_size
theorem dK:type_of% @Heap.lt_size:=@Heap.lt_size
theorem lA:type_of% @List.length_eq_zero_iff:=@List.length_eq_zero_iff
theorem iK:type_of% @List.length_append:=@List.length_append
theorem dX:type_of% @Int.le_trans:=@Int.le_trans
theorem fI:type_of% @wpAny_holding:=@wpAny_holding
theorem oj:type_of% @List.getElem?_append_right:=@List.getElem?_append_right
theorem mV:type_of% @List.getElem?_append_left:=@List.getElem?_append_left
theorem fU:type_of% @Nat.ne_of_lt:=@Nat.ne_of_lt
theorem kG:type_of% @of_decide_eq_true:=@of_decide_eq_true
theorem mW:type_of% @Bool.and_eq_true_iff:=@Bool.and_eq_true_iff
theorem kH:type_of% @List.zip_cons_cons:=@List.zip_cons_cons
theorem kJ:type_of% @List.append_assoc:=@List.append_assoc
theorem il:type_of% @Int.le_of_lt:=@Int.le_of_lt
theorem rC:type_of% @List.getElem?_eq_some_iff:=@List.getElem?_eq_some_iff
theorem ip:type_of% @Nat.le_refl:=@Nat.le_refl
theorem om:type_of% @Heap.get?_none_of_le:=@Heap.get?_none_of_le
theorem iX:type_of% @Nat.lt_or_ge:=@Nat.lt_or_ge
theorem kK:type_of% @Bool.or_eq_true_iff:=@Bool.or_eq_true_iff
theorem mX:type_of% @beq_eq_false_iff_ne:=@beq_eq_false_iff_ne
theorem oq:type_of% @List.getD_eq_getElem?_getD:=@List.getD_eq_getElem?_getD
theorem wh:type_of% @Option.map_eq_some_iff:=@Option.map_eq_some_iff
end Tactic
namespace Tactic
variable{o:Option O}
abbrev big:Nat:=100000
set_option genInjectivity true in
inductive Da where
 |none
 |bool (b:Bool)
 |int (i:Int)
 |str (k:Nat)
 |lst (l:List Da)
 |tup (l:List Da)
def Da.ctorIdx(v:Da):Nat:=(by cases v with | none=>show 0 | bool=>show 1 | int=>show 2 | str=>show 3 | lst=>show 4 | tup=>show 5)
mutual
inductive Rd(s:So):V->Da->Prop
 |none:Rd s .none .none
 |bool (b:Bool):Rd s (.bool b) (.bool b)
 |int (i:Int):Rd s (.int i) (.int i)
 |str (k:Nat):Rd s (.str k) (.str k)
 |lst {a:Nat}{xs:List V}{l:List Da}:s a=some (.lst xs)->gD s xs l->Rd s (.ref a) (.lst l)
 |tup {a:Nat}{xs:List V}{l:List Da}:s a=some (.tup xs)->gD s xs l->Rd s (.ref a) (.tup l)
inductive gD(s:So):List V->List Da->Prop
 |nil:gD s [] []
 |cons {v:V}{d:Da}{vs:List V}{ds:List Da}:Rd s v d->gD s vs ds->gD s (v::vs) (d::ds)
end
mutual
def Da.eq:Da->Da->Bool
 | .none,.none=>true
 | .bool a,.bool b=>a == b
 | .int i,.int j=>decide (i=j)
 | .str i,.str j=>Nat.beq i j
 | .lst l,.lst r=>Da.eqs l r
 | .tup l,.tup r=>Da.eqs l r
 | .bool b,.int j=>decide ((if b then 1 else 0:Int)=j)
 | .int j,.bool b=>decide (j=(if b then 1 else 0:Int))
 |_,_=>false
def Da.eqs:List Da->List Da->Bool
 | [],[]=>true
 |d::l,e::r=>Da.eq d e && Da.eqs l r
 |_,_=>false
end
mutual
def Da.deep:Da->Nat
 | .lst l=>Da.iL l+1
 | .tup l=>Da.iL l+1
 |_=>0
def Da.iL:List Da->Nat
 | []=>0
 |d::l=>max (Da.deep d) (Da.iL l)
end
def CZ(v:V):Option Da:=match v with
 | .none=>some .none
 | .bool b=>some (.bool b)
 | .int i=>some (.int i)
 | .str k=>some (.str k)
 |_=>Option.none
def sD(d e:Da):Option Bool:=match d,e with
 | .none,.none=>some true
 | .none,.int _=>some false
 | .int _,.none=>some false
 | .bool a,.bool b=>some (a == b)
 | .int i,.int j=>some (decide (i=j))
 | .str i,.str j=>some (Nat.beq i j)
 | .bool _,.str _=>some false
 | .str _,.bool _=>some false
 |_,_=>Option.none
def sEq(v w:V):Option Bool:=(CZ v).bind λd=>(CZ w).bind (sD d)
def cq:List (Int×V)->Int->Option V
 | [],_=>Option.none
 |(k,v)::r,x=>if k=x then some v else cq r x
def dup:List (Int×V)->Int->V->List (Int×V)
 | [],x,v=>[(x,v)]
 |(k,u)::r,x,v=>if k=x then (k,v)::r else (k,u)::dup r x v
def ot(d e:List (Int×V)):Prop:=d.length=e.length/\∀p∈d,∃i,p.2=.int i/\cq e p.1=some (.int i)
def kL(es:List (Int×V)):Prop:=∀p∈es,∃i,p.2=V.int i
class inductive jR(s:So):List V->List (List (Int×V))->Prop
 |nil:jR s [] []
 |cons {a:Nat}{es:List (Int×V)}{vs:List V}{ds:List (List (Int×V))}{ep:Nat}:s a=some (.aP es ep)->kL es->jR s vs ds->jR s (.ref a::vs) (es::ds)
def truth(v:V)(K:Bool->Prop):Prop:=match v with
 | .bool b=>K b
 |_=>False
abbrev bN(v:V)(p:Int->Prop):Prop:=match v with
 | .int i=>p i
 |_=>False
abbrev C3(v:V)(p:Prop)(q:Int->Prop):Prop:=match v with
 | .none=>p
 | .int i=>q i
 |_=>False
abbrev cQ(v:V)(p:Nat->Prop):Prop:=match v with
 | .ref a=>p a
 |_=>False
abbrev iq(o:Option O)(p:List V->Prop):Prop:=match o with
 |some (.lst xs)=>p xs
 |_=>False
abbrev AF(o:Option O)(p:List V->Prop):Prop:=match o with
 |some (.lst xs)=>p xs
 |some (.tup xs)=>p xs
 |_=>False
abbrev ou(o:Option O)(p:List V->Prop):Prop:=match o with
 |some (.lst xs)=>p xs
 |some (.tup xs)=>p xs
 |some (.cO xs)=>p xs
 |_=>False
abbrev C4(l:List V)(p:Prop):Prop:=match l with
 | []=>p
 |_=>False
abbrev dh(l:List V)(p:V->Prop):Prop:=match l with
 | [x]=>p x
 |_=>False
abbrev fV(l:List V)(p:V->V->Prop):Prop:=match l with
 |x::r=>dh r (p x)
 |_=>False
abbrev wi(o:Option O)(p:Nat->List (Nat×V)->Prop):Prop:=match o with
 |some (.inst c fs)=>p c fs
 |_=>False
abbrev mY(o:Option O)(p:List V->Prop):Prop:=match o with
 |some (.tup xs)=>p xs
 |_=>False
abbrev C5(o:Option O)(p:List (Int×V)->Nat->Prop):Prop:=match o with
 |some (.aP es ep)=>p es ep
 |_=>False
abbrev aet(o:Option O)(p:List (Int×V)->Nat->Prop)(q:List V->Prop):Prop:=match o with
 |some (.aP es ep)=>p es ep
 |some (.lst xs)=>q xs
 |_=>False
abbrev jr{α:Type}(o:Option α)(p:α->Prop):Prop:=match o with
 |some x=>p x
 |Option.none=>False
abbrev IY(o:Option V)(p:Prop):Prop:=match o with
 |Option.none=>p
 |_=>False
abbrev IZ(o:Option V)(p:List Nat->E->List (Nat×V)->Prop):Prop:=match o with
 |some (.bA a b c)=>p a b c
 |_=>False
abbrev mZ(b:Bool)(p:Prop):Prop:=match b with
 |true=>p
 |false=>False
abbrev I0{α:Type}(l:List α)(p:Prop):Prop:=match l with
 | []=>p
 |_=>False
def m6(cu:Nat->Nat->Bool)(v:V)(k:Nat)(K:V->Prop)(s:So):Prop:=cQ v λa=>wi (s a) λc fs=>mZ (cu c k) (jr (lk fs k) K)
def jS(cu:Nat->Nat->Bool)(w:V)(k:Nat)(v:V)(K:So->Prop)(s:So):Prop:=cQ w λa=>wi (s a) λc fs=>mZ (cu c k) (mZ (Nat.blt fs.length 900) (K (put s a (.inst c (up fs k v)))))
def new(o:O)(Q:V->So->Prop)(s:So):Prop:=∀c,s c=Option.none->Q (.ref c) (put s c o)
def newD(es:List (Int×V))(Q:V->So->Prop)(s:So):Prop:=∀ep c,s c=Option.none->Q (.ref c) (put s c (.aP es ep))
def ix(xs:List V)(i:Int):Option V:=if 0<=i then xs[i.toNat]? else if 0<=i+xs.length then xs[(i+xs.length).toNat]? else Option.none
abbrev wj(o:Option O)(p:List V->Prop)(q:List V->Prop)(r:List (Int×V)->Prop):Prop:=match o with
 |some (.lst xs)=>p xs
 |some (.tup xs)=>q xs
 |some (.aP es _)=>r es
 |_=>False
def wm(v w:V)(K:V->Prop)(s:So):Prop:=cQ v λa=>bN w λi=>wj (s a) (λxs=>jr (ix xs i) K) (λxs=>jr (ix xs i) K) (λes=>jr (cq es i) K)
def wq(v w x:V)(K:So->Prop)(s:So):Prop:=cQ v λa=>bN w λi=>aet (s a) (λes _=>es.length<1000/\∀ep,K (put s a (.aP (dup es i x) ep))) (λxs=>0<=i/\i<xs.length/\K (put s a (.lst (xs.set i.toNat x))))
def arith(o:Ar)(v w:V)(Q:V->So->Prop)(s:So):Prop:=match o with
 | .add=>bN v λi=>bN w λj=>Q (.int (i+j)) s
 | .sub=>bN v λi=>bN w λj=>Q (.int (i-j)) s
 | .mul=>bN v λi=>bN w λj=>(i.natAbs<2 ^ 40/\j.natAbs<2 ^ 40)/\Q (.int (i * j)) s
 | .fdiv=>bN v λi=>bN w λj=>(0<j/\j<1000000)/\Q (.int (i.fdiv j)) s
 | .mod=>bN v λi=>bN w λj=>0<j/\Q (.int (i.fmod j)) s
 | .cat=>cQ v λa=>cQ w λb=>iq (s a) λxs=>iq (s b) λys=>xs.length+ys.length<big/\new (.lst (xs++ys)) Q s
 | .rep=>cQ v λa=>bN w λi=>iq (s a) λxs=>(0<=i/\i<200/\xs.length * i.toNat<200)/\new (.lst (List.replicate i.toNat xs).flatten) Q s
def eqs(v w:V)(K:Bool->Prop)(s:So):Prop:=match v,w with
 | .ref _,.ref _=>(∃d e,Rd s v d/\Rd s w e/\Da.deep d<20/\Da.deep e<20/\K (Da.eq d e)) \/
   (∃a b xs ys d e,v=.ref a/\w=.ref b/\s a=some (.lst xs)/\s b=some (.lst ys)/\jR s xs d/\jR s ys e/\((d.length=e.length/\∀p∈d.zip e,ot p.1 p.2)->K true)/\(¬ (d.length=e.length/\∀p∈d.zip e,ot p.1 p.2)->K false))
 |v,w=>jr (sEq v w) K
def oy(o:Option O):Bool:=match o with
 |some (.inst _ _)=>true
 |_=>false
def same(s:So)(v w:V):Option Bool:=match v with
 | .none=>(match w with
  | .none=>some true
  | .ref _=>some false
  | .int _=>some false
  | .bool _=>some false
  |_=>Option.none)
 | .ref a=>(match w with
  | .ref b=>bif oy (s a) && oy (s b) then some (Nat.beq a b) else Option.none
  | .none=>some false
  |_=>Option.none)
 | .int _=>(match w with
  | .none=>some false
  |_=>Option.none)
 | .bool _=>(match w with
  | .none=>some false
  |_=>Option.none)
 |_=>Option.none
def cmp(o:Cm)(v w:V)(K:Bool->Prop)(s:So):Prop:=match o with
 | .lt=>bN v λi=>bN w λj=>K (decide (i<j))
 | .le=>bN v λi=>bN w λj=>K (decide (i<=j))
 | .gt=>bN v λi=>bN w λj=>K (decide (j<i))
 | .ge=>bN v λi=>bN w λj=>K (decide (j<=i))
 | .eq=>eqs v w K s
 | .ne=>eqs v w (λb=>K (!b)) s
 | .is=>jr (same s v w) K
 | .aX=>jr (same s v w) λb=>K (!b)
 | .og=>bN v λi=>cQ w λa=>AF (s a) λxs=>∃l:List Int,xs=l.map V.int/\K (!l.contains i)
def insI(x:Int):List Int->List Int
 | []=>[x]
 |y::r=>if y<=x then y::insI x r else x::y::r
def sortI:List Int->List Int
 | []=>[]
 |x::r=>insI x (sortI r)
def lB(x:Int×V):List (Int×V)->List (Int×V)
 | []=>[x]
 |y::r=>if y.1<x.1 then y::lB x r else x::y::r
def hJ:List (Int×V)->List (Int×V)
 | []=>[]
 |x::r=>lB x (hJ r)
class inductive Pairs(s:So):List V->List (Int×V)->Prop
 |nil:Pairs s [] []
 |cons {a:Nat}{i j:Int}{vs:List V}{ps:List (Int×V)}:s a=some (.tup [.int i,.int j])->Pairs s vs ps->Pairs s (.ref a::vs) ((i,.ref a)::ps)
class inductive DO(s:So):List V->List (Int×V)->Prop
 |nil:DO s [] []
 |cons {a:Nat}{i j:Int}{r:List V}{d:List (Int×V)}:s a=some (.tup [.int i,.int j])->DO s r d->DO s (.ref a::r) ((i,.int j)::d)
def AG(l:List (Int×V)):List (Int×V):=l.foldl (λd p=>dup d p.1 p.2) []
def bi(b:Bi)(l:List V)(Q:V->So->Prop)(s:So):Prop:=match b with
 | .len=>dh l λv=>cQ v λa=>ou (s a) λxs=>Q (.int xs.length) s
 | .lst=>dh l λv=>cQ v λa=>ou (s a) λxs=>xs.length<big/\new (.lst xs) Q s
 | .dict=>dh l λv=>cQ v λa=>aet (s a) (λes _=>es.length<1000/\newD es Q s) (λxs=>∃d,DO s xs d/\d.length<1000/\newD (AG d) Q s)
 | .sorted=>dh l λv=>cQ v λa=>aet (s a) (λes _=>I0 es (new (.lst []) Q s)) (λxs=>(∃l:List Int,xs=l.map V.int/\l.length<64/\new (.lst ((sortI l).map V.int)) Q s)\/(∃ps,Pairs s xs ps/\(ps.map (·.1)).Nodup/\ps.length<=3/\new (.lst ((hJ ps).map (·.2))) Q s))
 | .abs=>dh l λv=>bN v λi=>Q (.int i.natAbs) s
 | .min=>fV l λv w=>bN v λi=>bN w λj=>Q (.int (if j<i then j else i)) s
 | .max=>fV l λv w=>bN v λi=>bN w λj=>Q (.int (if i<j then j else i)) s
def I5(m:Lm)(v:V)(l:List V)(Q:V->So->Prop)(s:So):Prop:=cQ v λa=>match m with
 | .append=>dh l λx=>iq (s a) λxs=>xs.length<big/\Q .none (put s a (.lst (xs++[x])))
 | .extend=>dh l λx=>cQ x λb=>iq (s a) λxs=>iq (s b) λys=>a≠b/\xs.length+ys.length<big/\Q .none (put s a (.lst (xs++ys)))
 | .pop=>C4 l (iq (s a) λxs=>∃r x,xs=r++[x]/\Q x (put s a (.lst r)))
def rD(K:List (Int×V)->So->Prop):List (Int×V)->List (Int×V)->So->Prop
 | [],acc,s=>K acc s
 |(k,v)::r,acc,s=>∀c,s c=Option.none->rD K r (acc++[(k,.ref c)]) (put s c (.tup [.int k,v]))
def loop(step:V->Env->(Env->So->Prop)->So->Prop)(G:So->Prop)(Q:Env->So->Prop):List V->Env->So->Prop
 | [],m,s=>G s/\Q m s
 |v::r,m,s=>G s/\step v m (λm' s'=>loop step G Q r m' s') s
def gather(step:V->Env->(Option V->So->Prop)->So->Prop)(G:So->Prop)(m:Env)(Q:List V->So->Prop):List V->List V->So->Prop
 | [],acc,s=>G s/\Q acc s
 |v::r,acc,s=>G s/\step v m (λo s'=>match o with
  |some x=>gather step G m Q r (acc++[x]) s'
  |Option.none=>gather step G m Q r acc s') s
def fJ(t:List Nat)(v:V)(m:Env)(K:Env->Prop)(s:So):Prop:=match t with
 | [x]=>K (up m x v)
 |t=>cQ v λa=>mY (s a) λxs=>xs.length=t.length/\K ((t.zip xs).foldl (λm p=>up m p.1 p.2) m)
def wu(m:Env):List Nat->Option (List (Nat×V))
 | []=>some []
 |x::r=>match lk m x with
  |some (.bA _ _ _)=>Option.none
  |some v=>(wu m r).map λc=>(x,v)::c
  |Option.none=>Option.none
def ups:List Nat->List V->Env->Env
 |x::r,v::l,m=>ups r l (up m x v)
 |_,_,m=>m
def I6(vs:List V)(p:Int->Int->Prop):Prop:=match vs with
 | []=>False
 |v::r=>match r with
  | []=>bN v (p 0)
  |w::t=>C4 t (bN v λa=>bN w (p a))
def kM(a b:Int):List V:=(List.range (b-a).toNat).map λ(i:Nat)=>V.int (a+(i:Int))
structure Wo where
 cu:Nat->Nat->Bool
 mt:Nat->Nat->Option Nat
 ctor:Nat->Option Nat
 call:Nat->List V->(V->So->Prop)->(Nat->So->Prop)->So->Prop
 iY:List Nat->E->Env->List V->(V->So->Prop)->So->Prop
def few(vs:List V)(P:Prop):Prop:=mZ (Nat.blt vs.length 900) P
def aN:Nat->So->Prop:=λ_ _=>False
def m7(K:List V->(So->Prop)->So->Prop)(v:V)(s:So):Prop:=cQ v λa=>aet (s a) (λes ep=>es.length<1000/\K (es.map λp=>.int p.1) (λs'=>s' a=some (.aP es ep)) s) λxs=>K xs (λs'=>s' a=some (.lst xs)) s
mutual
def wE(W:Wo):E->Env->(V->So->Prop)->(Nat->So->Prop)->So->Prop
 | .stop,_,_,_,_=>False
 | .cN,_,Q,_,s=>Q .none s
 | .cB b,_,Q,_,s=>Q (.bool b) s
 | .cI i,_,Q,_,s=>Q (.int i) s
 | .cS k,_,Q,_,s=>Q (.str k) s
 | .v x,m,Q,_,s=>match lk m x with
  |some (.bA _ _ _)=>False
  |some v=>Q v s
  |Option.none=>False
 | .glob a,_,Q,_,s=>Q (.ref a) s
 | .attr e k,m,Q,X,s=>wE W e m (λv s=>m6 W.cu v k (λx=>Q x s) s) X s
 | .ar o a b,m,Q,X,s=>wE W a m (λv s=>wE W b m (λw s=>arith o v w Q s) X s) X s
 | .not e,m,Q,X,s=>wE W e m (λv s=>truth v λt=>Q (.bool (!t)) s) X s
 | .fG c a b,m,Q,X,s=>wB W c m (wE W c m) (λt s=>match t with
  |true=>wE W a m Q X s
  |false=>wE W b m Q X s) X s
 | .and a b,m,Q,X,s=>wE W a m (λv s=>truth v λt=>match t with
  |true=>wE W b m Q X s
  |false=>Q v s) X s
 | .or a b,m,Q,X,s=>wE W a m (λv s=>truth v λt=>match t with
  |true=>Q v s
  |false=>wE W b m Q X s) X s
 | .cmp o a b,m,Q,X,s=>wE W a m (λv s=>wE W b m (λw s=>cmp o v w (λt=>Q (.bool t) s) s) X s) X s
 | .gM o p a b c,m,Q,X,s=>wE W a m (λv s=>wE W b m (λw s=>cmp o v w (λt=>match t with
  |true=>wE W c m (λu s=>cmp p w u (λt=>Q (.bool t) s) s) X s
  |false=>Q (.bool false) s) s) X s) X s
 | .list l,m,Q,X,s=>wEs W l m (λvs s=>few vs (new (.lst vs) Q s)) X s
 | .tup l,m,Q,X,s=>wEs W l m (λvs s=>few vs (new (.tup vs) Q s)) X s
 | .dH,_,Q,_,s=>newD [] Q s
 | .idx e i,m,Q,X,s=>wE W e m (λv s=>wE W i m (λw s=>wm v w (λx=>Q x s) s) X s) X s
 | .gN e lo hi,m,Q,X,s=>wE W e m (λv s=>wO W lo m (λl s=>wO W hi m (λh s=>cQ v λa=>iq (s a) λxs=>C3 l (bN h λj=>0<=j/\xs.length<big/\new (.lst (xs.take j.toNat)) Q s) λi=>C3 h (0<=i/\xs.length<big/\new (.lst (xs.drop i.toNat)) Q s) λj=>0<=i/\0<=j/\xs.length<big/\new (.lst ((xs.take j.toNat).drop i.toNat)) Q s) X s) X s) X s
 | .jO e,m,Q,X,s=>wE W e m (λv s=>cQ v λa=>iq (s a) λxs=>xs.length<big/\new (.lst xs.reverse) Q s) X s
 | .call f l,m,Q,X,s=>wEs W l m (λvs s=>W.call f vs Q X s) X s
 | .new c l,m,Q,X,s=>jr (W.ctor c) λf=>wEs W l m (λvs s=>∀a,s a=Option.none->W.call f (.ref a::vs) (λv s'=>v=.none/\Q (.ref a) s') aN (put s a (.inst c []))) X s
 | .aJ e k l,m,Q,X,s=>wE W e m (λv s=>cQ v λa=>wi (s a) λc fs=>IY (lk fs k) (jr (W.mt c k) λf=>wEs W l m (λvs s=>W.call f (.ref a::vs) Q X s) X s)) X s
 | .bi b l,m,Q,X,s=>wEs W l m (λvs s=>bi b vs Q s) X s
 | .lm o e l,m,Q,X,s=>wE W e m (λv s=>cQ v λa=>iq (s a) λ_=>wEs W l m (λvs s=>I5 o (.ref a) vs Q s) X s) X s
 | .items e,m,Q,X,s=>wE W e m (λv s=>cQ v λa=>C5 (s a) λes _=>kL es/\(es.map (·.1)).Nodup/\es.length<=3/\rD (λps s=>new (.lst ((hJ ps).map (·.2))) Q s) es [] s) X s
 | .isTrue e,m,Q,X,s=>wE W e m (λv s=>match v with
  | .bool b=>Q (.bool b) s
  | .str k=>k<125/\Q (.bool false) s
  |_=>False) X s
 | .ru e,m,Q,X,s=>wE W e m (λv s=>bN v λ_=>Q (.bool false) s) X s
 | .dI f l ai b aq,m,Q,X,s=>wEs W l m (λvs s=>jr (wu m aq) λc=>W.call f (vs++[.bA ai b c]) Q X s) X s
 | .gy x l,m,Q,X,s=>IZ (lk m x) λai b aq=>wEs W l m (λvs s=>W.iY ai b aq vs Q s) X s
 | .comp e t src ifs,m,Q,X,s=>m8 W src m (wE W src m) (λvs G s=>
   gather (λv m K s=>fJ t v m (λm'=>uF W ifs m' (λb s=>match b with
    |true=>wE W e m' (λx s=>K (some x) s) aN s
    |false=>K Option.none s) s) s) G m (λxs s=>xs.length<big/\new (.lst xs) Q s) vs [] s) X s
 | .jq _,_,_,_,_=>False
def wEs(W:Wo):List E->Env->(List V->So->Prop)->(Nat->So->Prop)->So->Prop
 | [],_,Q,_,s=>Q [] s
 |e::r,m,Q,X,s=>wE W e m (λv s=>wEs W r m (λvs s=>Q (v::vs) s) X s) X s
def wO(W:Wo):Option E->Env->(V->So->Prop)->(Nat->So->Prop)->So->Prop
 |Option.none,_,Q,_,s=>Q .none s
 |some e,m,Q,X,s=>wE W e m Q X s
def wB(W:Wo):E->Env->((V->So->Prop)->(Nat->So->Prop)->So->Prop)->(Bool->So->Prop)->(Nat->So->Prop)->So->Prop
 | .not e,m,_,K,X,s=>wB W e m (wE W e m) (λt s=>K (!t) s) X s
 | .and a b,m,_,K,X,s=>wB W a m (wE W a m) (λt s=>match t with
  |true=>wB W b m (wE W b m) K X s
  |false=>K false s) X s
 | .or a b,m,_,K,X,s=>wB W a m (wE W a m) (λt s=>match t with
  |true=>K true s
  |false=>wB W b m (wE W b m) K X s) X s
 | .fG c a b,m,_,K,X,s=>wB W c m (wE W c m) (λt s=>match t with
  |true=>wB W a m (wE W a m) K X s
  |false=>wB W b m (wE W b m) K X s) X s
 | .isTrue _,_,_,_,_,_=>False
 |_,_,whole,K,X,s=>whole (λv s=>truth v λt=>K t s) X s
def m8(W:Wo):E->Env->((V->So->Prop)->(Nat->So->Prop)->So->Prop)->(List V->(So->Prop)->So->Prop)->(Nat->So->Prop)->So->Prop
 | .jq l,m,_,K,X,s=>wEs W l m (λvs s=>I6 vs λa b=>(-big<=a/\a<big/\-big<=b/\b<big)/\K (kM a b) (λ_=>True) s) X s
 |_,_,whole,K,X,s=>whole (m7 K) X s
def uF(W:Wo):List E->Env->(Bool->So->Prop)->So->Prop
 | [],_,K,s=>K true s
 |e::r,m,K,s=>wB W e m (wE W e m) (λt s=>match t with
  |true=>uF W r m K s
  |false=>K false s) aN s
end
def fH(test:Env->(Bool->So->Prop)->So->Prop)(body:Env->(Env->So->Prop)->(V->So->Prop)->So->Prop)(N:Env->So->Prop)(R:V->So->Prop)(m:Env)(s:So):Prop:=
 ∀P:Env->So->Prop,(∀m s,test m (λt s'=>match t with
  |true=>body m P R s'
  |false=>N m s') s->P m s)->P m s
def wT(W:Wo)(t:Tg)(v:V)(m:Env)(N:Env->So->Prop)(X:Nat->So->Prop)(s:So):Prop:=match t with
 | .v x=>N (up m x v) s
 | .attr e k=>wE W e m (λw s=>jS W.cu w k v (λs=>N m s) s) X s
 | .idx e i=>wE W e m (λw s=>wE W i m (λj s=>wq w j v (λs=>N m s) s) X s) X s
 | .gN e lo hi=>wE W e m (λw s=>wE W lo m (λl s=>wE W hi m (λh s=>cQ w λa=>bN l λi=>bN h λj=>cQ v λb=>iq (s a) λxs=>iq (s b) λys=>a≠b/\0<=i/\i<=j/\j<=xs.length/\xs.length+ys.length<big/\N m (put s a (.lst (xs.take i.toNat++ys++xs.drop j.toNat)))) X s) X s) X s
def wTs(W:Wo):List Tg->List V->Env->(Env->So->Prop)->(Nat->So->Prop)->So->Prop
 | [],[],m,N,_,s=>N m s
 |t::ts,v::vs,m,N,X,s=>wT W t v m (λm s=>wTs W ts vs m N X s) X s
 |_,_,_,_,_,_=>False
mutual
def wS(W:Wo):Sm->Env->(Env->So->Prop)->(V->So->Prop)->(Nat->So->Prop)->So->Prop
 | .stop,_,_,_,_,_=>False
 | .asg t e,m,N,_,X,s=>wE W e m (λv s=>wT W t v m N X s) X s
 | .gO ts e,m,N,_,X,s=>wE W e m (λv s=>cQ v λa=>mY (s a) λxs=>xs.length=ts.length/\wTs W ts xs m N X s) X s
 | .ex e,m,N,_,X,s=>wE W e m (λ_ s=>N m s) X s
 | .iff c a b,m,N,R,X,s=>wB W c m (wE W c m) (λt s=>match t with
  |true=>wSs W a m N R X s
  |false=>wSs W b m N R X s) X s
 | .fH c b,m,N,R,_,s=>fH (λm K s=>wB W c m (wE W c m) K aN s) (λm P R s=>wSs W b m P R aN s) N R m s
 | .aS t src b,m,N,R,X,s=>m8 W src m (wE W src m) (λvs G s=>loop (λv m K s=>fJ t v m (λm'=>wSs W b m' K R aN s) s) G N vs m s) X s
 | .ret e,m,_,R,X,s=>wE W e m R X s
 | .raise k e,m,_,_,X,s=>wE W e m (λ_ s=>X k s) X s
 | .jP b _,m,N,R,_,s=>wSs W b m N R (λk s=>R (.str k) s) s
def wSs(W:Wo):List Sm->Env->(Env->So->Prop)->(V->So->Prop)->(Nat->So->Prop)->So->Prop
 | [],m,N,_,_,s=>N m s
 |a::r,m,N,R,X,s=>wS W a m (λm s=>wSs W r m N R X s) R X s
end
def I7{c fs}{p:Nat->List (Nat×V)->Prop}(h:o=some (.inst c fs))(k:p c fs):wi o p:=by subst h;show k
def aqS{xs}{p:List V->Prop}(h:o=some (.lst xs))(k:p xs):iq o p:=by subst h;show k
def aqT{xs}{p:List V->Prop}(h:o=some (.tup xs))(k:p xs):mY o p:=by subst h;show k
def Sn{xs}{p q:List V->Prop}{r:List (Int×V)->Prop}(h:o=some (.lst xs))(k:p xs):wj o p q r:=by subst h;show k
def Sp{xs}{p q:List V->Prop}{r:List (Int×V)->Prop}(h:o=some (.tup xs))(k:q xs):wj o p q r:=by subst h;show k
def Sq{es ep}{p q:List V->Prop}{r:List (Int×V)->Prop}(h:o=some (.aP es ep))(k:r es):wj o p q r:=by subst h;show k
def Sr{es ep}{p:List (Int×V)->Nat->Prop}{q:List V->Prop}(h:o=some (.aP es ep))(k:p es ep):aet o p q:=by subst h;show k
def m9{xs}{p:List (Int×V)->Nat->Prop}{q:List V->Prop}(h:o=some (.lst xs))(k:q xs):aet o p q:=by subst h;show k
def aqP{xs}{p:List V->Prop}(h:o=some (.lst xs))(k:p xs):ou o p:=by subst h;show k
def aqR{xs}{p:List V->Prop}(h:o=some (.tup xs))(k:p xs):ou o p:=by subst h;show k
def aqO{xs}{p:List V->Prop}(h:o=some (.lst xs))(k:p xs):AF o p:=by subst h;show k
def aqN{xs}{p:List V->Prop}(h:o=some (.tup xs))(k:p xs):AF o p:=by subst h;show k
def aqQ{es ep}{p:List (Int×V)->Nat->Prop}(h:o=some (.aP es ep))(k:p es ep):C5 o p:=by subst h;show k
def rE{α:Type}{o:Option α}{x}{p:α->Prop}(h:o=some x)(k:p x):jr o p:=by subst h;show k
def wy{b:Bool}{p:Prop}(h:b=true)(k:p):mZ b p:=by subst h;show k
def uG{m:Env}{x a:Nat}{p:V->Prop}(h:lk m x=some (.ref a))(k:p (.ref a)):(match lk m x with | some (.bA _ _ _)=>False | some v=>p v | Option.none=>False):=by rewrite [h];show k
def gR:List String:=["deck","script","many","buffer","dicts","states","at","turn","deed","ticks","tick","is_read_only","due","behind","undo","list","boundary","rows","own","is_done","state","is_modified","self","symbol","data","a","set_modified","props","word","put","remove","all","one","other","args-out-of-range","buffer-read-only","found","signal_here","size","number","name","text","room","markers","point","begv","zv","mark","is_live","codes_ticks","saved_ticks","listeners","overlays","locals","syntax","file","codes","before_markers","tree","length","items","start","end","plist","value","numbers","old","row","insert","delete","property","unmodified","renew_unmodified","cells","gap_start","gap_end","place","is_point_behind","inserted","root","dropped","is_on","point_before","noted_tick","low","high","begin","last","fresh","turned","listener","touch","pair","node","ahead","left","right","changed","first","wanted","property_changes","put_rows","old_length","total","parent","new","rows_between","elder","rest","above","son","moved","here","waiting","top","difference","is_at_boundary","widen_gap","move_gap","is_before","note_property","is_so","are_codes","note_state","lack"]
def f0:Fd:=⟨[1],[],[.asg '#' (.list [.gN (.bi .lst ['$']) none (some (.cI 60)),.cI 0]),.asg '%' (.call 2 ['#',.cI 9]),.gO ['&',.v 4,'('] (.tup [.call 3 ['%'],.comp .dH [6] (.jq ['%']) [],.list []]),.aS [7] (.jq [.ar .add (.cI 2) (.call 2 ['#',.cI 7])]) [.gO ['+',','] (.tup [.call 4 ['#','%'],.aJ '&' 10 []]),.asg 3.11 (.cmp .eq (.call 2 ['#',.cI 6]) (.cI 5)),.gO ['/','0'] (.call 5 [.v 4,'+','%',3.11]),.ex (.aJ (.attr 3.14 15) 16 []),.asg '4' (.bi .len [.attr (.attr 3.14 15) 17]),.iff (.or (.cmp .ne (.call 6 ['&','+']) '/') (.cmp .ne (.call 7 ['&']) (.comp (.items '5') [18] '0' []))) [.ret (.cB false)] [],.asg '6' (.isTrue '/'),.iff (.or (.cmp .ne (.cmp .gt (.aJ '&' 10 []) ',') '6') (.cmp .ne (.cmp .gt (.bi .len [.attr (.attr 3.14 15) 17]) '4') '6')) [.ret (.cB false)] [],.gO ['(',.v 4] (.tup [.fG '6' (.ar .cat '(' (.list [.v 4])) '(','0'])],.asg 3.11 (.cB false),.ex (.aJ (.attr 3.14 15) 16 []),.asg '4' (.bi .lst [.attr (.attr 3.14 15) 17]),.asg ')' (.bi .len ['4']),.aS [20] (.jO '(') [.asg ')' (.call 8 ['&','4',')']),.iff (.cmp .ne (.call 7 ['&']) (.comp (.items '5') [18] '7' [])) [.ret (.cB false)] []],.ret (.and (.not (.aJ '&' 21 [])) (.cmp .eq (.call 7 ['&']) (.ar .rep (.list [.list []]) '%')))]⟩
def f1:Fd:=⟨[22,23,24],[],[.asg 22.23 ':',.asg 22.24 ';']⟩
def f2:Fd:=⟨[0,2],[],[.asg (.idx '#' (.cI 1)) (.ar .add (.idx '#' (.cI 1)) (.cI 1)),.iff (.cmp .le (.idx '#' (.cI 1)) (.bi .len [.idx '#' (.cI 0)])) [.ret (.ar .mod (.idx (.idx '#' (.cI 0)) (.ar .sub (.idx '#' (.cI 1)) (.cI 1))) '%')] [],.ret (.ar .mod (.ar .fdiv (.ar .add (.ar .add (.ar .add (.ar .mul (.ar .mul (.idx '#' (.cI 1)) (.idx '#' (.cI 1))) (.cI 31)) (.ar .mul (.cI 17) (.idx '#' (.cI 1)))) (.ar .mul (.cI 5) (.bi .len [.idx '#' (.cI 0)]))) (.cI 7)) (.cI 3)) '%')]⟩
def f3:Fd:=⟨[2],[],[.asg '&' (.new 7 [.cI 1,.cS 25]),.ex (.call 10 ['&',.comp (.ar .add (.cI 97) ')') [6] (.jq ['%']) []]),.ex (.aJ '&' 26 [.cB false]),.gO [3.27,3.14] (.tup [.new 3 ['%'],.new 10 []]),.ret '&']⟩
def f4:Fd:=⟨[0,2],[],[.asg '?' (.call 13 ['#',.list [.cS 29,.cS 29,.cS 30,.cS 31]]),.gO ['C','D'] (.tup [.call 2 ['#',.ar .add '%' (.cI 3)],.call 2 ['#',.ar .add '%' (.cI 2)]]),.ret (.tup ['?','C',.ar .add (.cI 1) 'D',.tup [.call 2 ['#',.cI 3],.call 2 ['#',.cI 3]],.cmp .eq (.call 2 ['#',.cI 2]) (.cI 1)])]⟩
def f5:Fd:=⟨[4,8,2,11],[],[.iff (.or (.cmp .lt (.bi .min [.idx '+' (.cI 1),.idx '+' (.cI 2)]) (.cI 1)) (.cmp .gt (.bi .max [.idx '+' (.cI 1),.idx '+' (.cI 2)]) (.ar .add '%' (.cI 1)))) [.ret (.tup [.cS 34,.v 4])] [],.iff (.and '.' (.cmp .eq (.idx '+' (.cI 0)) (.cS 31))) [.ret (.tup [.cS 35,.v 4])] [],.asg 'G' (.call 14 [.v 4,'+']),.iff (.cmp .eq 'G' (.v 4)) [.ret (.tup [.cB false,.v 4])] [],.ret (.fG '.' (.tup [.cS 35,.v 4]) (.tup [.cB true,'G']))]⟩
def f6:Fd:=⟨[3,8],[],[.jP [.iff (.cmp .eq (.idx '+' (.cI 0)) (.cS 29)) [.ret (.call 15 ['&',.idx '+' (.cI 1),.idx '+' (.cI 2),.idx (.idx '+' (.cI 3)) (.cI 0),.idx (.idx '+' (.cI 3)) (.cI 1)])] [],.iff (.cmp .eq (.idx '+' (.cI 0)) (.cS 30)) [.ret (.call 16 ['&',.idx '+' (.cI 1),.idx '+' (.cI 2),.bi .lst [.idx '+' (.cI 3)]])] [],.ret (.call 17 ['&',.idx '+' (.cI 1),.idx '+' (.cI 2),.fG (.idx '+' (.cI 4)) (.list [.idx '+' (.cI 3)]) (.list [])])] 37]⟩
def f7:Fd:=⟨[3],[],[.ret (.comp (.bi .sorted [.call 18 [3.27,')']]) [6] (.jq [.aJ '&' 38 []]) [])]⟩
def f8:Fd:=⟨[3,17,6],[],[.asg ')' (.call 19 ['4',')']),.fH (.and (.cmp .gt ')' (.cI 0)) (.cmp .ne (.idx '4' (.ar .sub ')' (.cI 1))) (.glob 884))) [.asg ')' (.call 20 ['&','4',')'])],.ret ')']⟩
def f9:Fd:=⟨[22,39,40,42],[.int 8],[.asg 22.39 'J',.asg 22.40 'K',.asg 22.41 (.new 4 [.list [],'M']),.asg 22.43 (.new 5 []),.asg 22.44 (.cI 1),.asg 22.45 (.cI 1),.asg 22.46 (.cI 1),.asg 22.47 .cN,.asg 22.48 (.cB true),.asg 22.11 (.cB false),.asg 22.9 (.cI 1),.asg 22.49 (.cI 1),.asg 22.50 (.cI 1),.asg 22.51 (.list []),.asg 22.14 .cN,.asg 22.27 .cN,.asg 22.52 .cN,.asg 22.53 .cN,.asg 22.54 .cN,.asg 22.55 .cN]⟩
def kN:Fd:=⟨[3,56,57],[.bool false],[.ex (.call 23 ['&',3.44,'[',.v 57,.cB true])]⟩
def nh:Fd:=⟨[22,59],[],[.asg 22.58 (.new 2 ['^',.list []])]⟩
def pV:Fd:=⟨[22],[],[.asg 22.15 (.new 8 [])]⟩
def I8:Fd:=⟨[0,60],[],[.ret (.idx '_' (.call 2 ['#',.bi .len ['_']]))]⟩
def I9:Fd:=⟨[4,8],[],[.asg 'G' (.comp (.bi .dict ['5']) [18] (.v 4) []),.aS [6] (.jq [.ar .sub (.bi .min [.idx '+' (.cI 1),.idx '+' (.cI 2)]) (.cI 1),.ar .sub (.bi .max [.idx '+' (.cI 1),.idx '+' (.cI 2)]) (.cI 1)]) [.iff (.cmp .eq (.idx '+' (.cI 0)) (.cS 29)) [.asg (.idx (.idx 'G' ')') (.idx (.idx '+' (.cI 3)) (.cI 0))) (.idx (.idx '+' (.cI 3)) (.cI 1))] [.iff (.cmp .eq (.idx '+' (.cI 0)) (.cS 30)) [.asg (.idx 'G' ')') (.bi .dict [.comp (.tup ['J',.idx (.idx 'G' ')') 'J']) [39] (.idx 'G' ')') [.cmp .og 'J' (.idx '+' (.cI 3))]])] [.asg (.idx 'G' ')') (.fG (.idx '+' (.cI 4)) (.bi .dict [.list [.idx '+' (.cI 3)]]) .dH)]]],.ret 'G']⟩
def Ja:Fd:=⟨[3,61,62,39,64],[],[.ret (.dI 26 ['&','`','a'] [63] (.call 27 ['b','J','c']) [39,64])]⟩
def Jb:Fd:=⟨[3,61,62,65],[],[.ret (.dI 26 ['&','`','a'] [63] (.call 28 ['b','d']) [65])]⟩
def Jc:Fd:=⟨[3,61,62,63],[],[.ex (.call 29 ['&','`','a']),.ex (.call 30 ['&']),.ret (.dI 26 ['&','`','a'] [66] (.bi .lst ['b']) [63])]⟩
def Jd:Fd:=⟨[27,6],[],[.iff (.cmp .ge ')' (.call 31 [27.58])) [.ret (.list [])] [],.ret (.attr (.idx (.call 32 [27.58,')']) (.cI 0)) 63)]⟩
def Je:Fd:=⟨[17,6],[],[.fH (.and (.cmp .gt ')' (.cI 0)) (.cmp .eq (.idx '4' (.ar .sub ')' (.cI 1))) (.glob 884))) [.asg ')' (.ar .sub ')' (.cI 1))],.ret ')']⟩
def C6:Fd:=⟨[3,17,6],[],[.asg 'f' (.idx '4' (.ar .sub ')' (.cI 1))),.asg ')' (.ar .sub ')' (.cI 1)),.iff (.cmp .eq (.idx 'f' (.cI 0)) (.cS 68)) [.stop] [.iff (.cmp .eq (.idx 'f' (.cI 0)) (.cS 69)) [.stop] [.iff (.cmp .eq (.idx 'f' (.cI 0)) (.cS 44)) [.stop] [.iff (.cmp .eq (.idx 'f' (.cI 0)) (.cS 70)) [.ex (.call 33 ['&',.idx 'f' (.cI 1),.idx 'f' (.cI 2)]),.ex (.call 34 ['&',.idx 'f' (.cI 1),.idx 'f' (.cI 2),.idx 'f' (.cI 3),.idx 'f' (.cI 4)])] [.iff (.and (.cmp .eq (.idx 'f' (.cI 0)) (.cS 71)) (.cmp .eq (.idx 'f' (.cI 1)) 3.50)) [.ex (.aJ '&' 26 [.cB false]),.iff (.cmp .aX 3.14 .cN) [.ex (.aJ (.attr 3.14 15) 72 [.idx 'f' (.cI 1),3.50])] []] []]]]],.ret ')']⟩
def Jf:Fd:=⟨[22,56,42],[],[.asg 22.42 'M',.asg 22.73 (.ar .cat (.bi .lst ['[']) (.ar .rep (.list [.cI 0]) 'M')),.asg 22.74 (.bi .len ['[']),.asg 22.75 (.ar .add (.bi .len ['[']) 'M')]⟩
def Jg:Fd:=⟨[22],[],[.asg 22.17 .dH]⟩
def rF:Fd:=⟨[3,76,56,57,77],[],[.ex (.call 35 ['&']),.ex (.call 36 ['&','o','o']),.iff (.cmp .eq (.bi .len ['[']) (.cI 0)) [.ret .cN] [],.ex (.call 37 ['&','o','o']),.ex (.call 38 ['&','o','[']),.iff 'p' [.asg 3.44 (.ar .add 'o' (.bi .len ['[']))] [],.ex (.aJ 3.43 78 ['o',.ar .add 'o' (.bi .len ['[']),.v 57]),.ex (.call 39 ['&','o',.bi .len ['['],.v 57]),.ex (.call 40 ['&','o',.ar .add 'o' (.bi .len ['[']),.cI 0])]⟩
def Jh:Fd:=⟨[22,59,63],[],[.asg 22.79 (.fG (.cmp .gt '^' (.cI 0)) (.new 1 ['^','b']) .cN)]⟩
def Ji:Fd:=⟨[22],[],[.asg 22.17 (.list []),.asg 22.80 (.cI 0),.asg 22.81 (.cB true),.asg 22.82 .cN,.asg 22.83 .cN]⟩
def nj:Fd:=⟨[3,61,62,89],[],[.gO ['w','x'] (.call 29 ['&','`','a']),.asg '4' (.list []),.aS [86,87,63] (.call 42 [3.27,.ar .sub 'w' (.cI 1),.ar .sub 'x' (.cI 1)]) [.asg '{' (.gy 89 ['b']),.iff (.cmp .gt (.bi .len [.call 43 ['b','{']]) (.cI 0)) [.ex (.lm .append '4' [.tup ['y','z','b','{']])] []],.iff (.cmp .eq (.bi .len ['4']) (.cI 0)) [.ret (.cB false)] [],.ex (.call 30 ['&']),.aS [90] (.bi .lst [3.51]) [.stop],.aS [86,87,63,88] '4' [.ex (.call 44 ['&','y','z','b','{'])],.ex (.call 45 [3.27,.comp (.tup ['y','z','{']) [86,87,63,88] '4' []]),.ex (.aJ '&' 91 [.cB false]),.aS [90] (.bi .lst [3.51]) [.stop],.ret (.cB true)]⟩
def Jj:Fd:=⟨[63,39,64],[],[.asg ')' (.call 46 ['b','J']),.iff (.cmp .lt ')' (.cI 0)) [.ret (.ar .cat 'b' (.list [.tup ['J','c']]))] [],.ret (.ar .cat (.ar .cat (.gN 'b' none (some ')')) (.list [.tup ['J','c']])) (.gN 'b' (some (.ar .add ')' (.cI 1))) none))]⟩
def Jk:Fd:=⟨[63,65],[],[.ret (.comp '§' [92] 'b' [.cmp .og (.idx '§' (.cI 0)) 'd'])]⟩
def Jl:Fd:=⟨[3,61,62],[],[.gO ['w','x'] (.tup [.bi .min ['`','a'],.bi .max ['`','a']]),.iff (.or (.cmp .lt 'w' 3.45) (.cmp .gt 'x' 3.46)) [.raise 34 (.list ['`','a'])] [],.ret (.tup ['w','x'])]⟩
def Jm:Fd:=⟨[3],[],[.iff 3.11 [.raise 35 (.list [3.40])] []]⟩
def Jn:Fd:=⟨[58],[],[.ret (.call 47 [58.79])]⟩
def Jo:Fd:=⟨[58,6],[],[.asg '¨' 58.79,.asg 'y' (.cI 0),.fH (.cB true) [.asg '©' (.call 47 [93.95]),.asg '5' (.call 48 ['¨']),.iff (.cmp .lt ')' (.ar .add 'y' '©')) [.asg '¨' 93.95] [.iff (.cmp .lt ')' (.ar .add (.ar .add 'y' '©') '5')) [.ret (.tup ['¨',.ar .add 'y' '©'])] [.asg 'y' (.ar .add (.ar .add 'y' '©') '5'),.asg '¨' 93.96]]]]⟩
def Jp:Fd:=⟨[3,61,62],[],[.iff (.or (.cmp .lt '`' 3.45) (.cmp .gt 'a' 3.46)) [.stop] []]⟩
def kP:Fd:=⟨[3,61,62,39,99],[],[.gO ['w','x'] (.call 36 ['&','`','a']),.ex (.call 35 ['&']),.iff (.cmp .is 3.27 .cN) [.stop] [],.asg '¬' (.list []),.aS [98,87,63] (.call 49 ['&','w','x']) [.iff (.not (.call 50 ['®','b','J'])) [.asg '{' (.fG (.cmp .is '®' .cN) (.call 51 ['b','J']) (.call 27 ['b','J',.idx '®' (.cI 0)])),.ex (.lm .append '¬' [.tup ['­','z','b','{']])] []],.aS [98,87,63,88] '¬' [.iff (.cmp .aX 3.14 .cN) [.ex (.aJ 3.14 100 ['&','­','z','J',.call 52 ['b','J']])] []],.iff (.cmp .gt (.bi .len ['¬']) (.cI 0)) [.ex (.aJ 3.27 101 [.comp (.tup [.ar .sub '­' (.cI 1),.ar .sub 'z' (.cI 1),'{']) [98,87,63,88] '¬' []]),.ex (.aJ '&' 91 [.cB false])] [],.ret (.cmp .gt (.bi .len ['¬']) (.cI 0))]⟩
def C7:Fd:=⟨[3],[],[.iff 3.11 [.stop] []]⟩
def C8:Fd:=⟨[3,61,62],[],[.gO ['w','x'] (.tup [.bi .min ['`','a'],.bi .max ['`','a']]),.iff (.or (.cmp .lt 'w' 3.45) (.cmp .gt 'x' 3.46)) [.stop] [],.ret (.tup ['w','x'])]⟩
def Jq:Fd:=⟨[3,61,62],[],[.aS [90] (.bi .lst [3.51]) [.stop]]⟩
def Jr:Fd:=⟨[3,76,56],[],[.iff (.cmp .aX 3.14 .cN) [.stop] [],.ex (.aJ 3.41 68 [.ar .sub 'o' (.cI 1),'[']),.asg 3.46 (.ar .add 3.46 (.bi .len ['['])),.iff (.cmp .gt 3.44 'o') [.stop] []]⟩
def Js:Fd:=⟨[3,76,2,57],[],[.iff (.cmp .aX 3.27 .cN) [.stop] [],.iff (.cmp .aX 3.52 .cN) [.stop] []]⟩
def Jt:Fd:=⟨[3,61,62,102],[],[.ex (.aJ '&' 91 [.cB true]),.aS [90] (.bi .lst [3.51]) [.stop]]⟩
def Ju:Fd:=⟨[22,103,63],[],[.asg 22.103 '²',.asg 22.63 'b',.asg 22.95 .cN,.asg 22.96 .cN,.asg 22.104 .cN]⟩
def Jv:Fd:=⟨[27,86,62],[],[.asg 'G' (.list []),.iff (.cmp .ge 'y' 'a') [.ret 'G'] [],.gO ['¨','­'] (.call 32 [27.58,'y']),.fH (.and (.cmp .aX '¨' .cN) (.cmp .lt '­' 'a')) [.asg 'z' (.ar .add '­' (.call 48 ['¨'])),.ex (.lm .append 'G' [.tup [.bi .max ['­','y'],.bi .min ['z','a'],93.63]]),.asg '­' 'z',.asg '¨' (.call 53 ['¨'])],.ret 'G']⟩
def Jw:Fd:=⟨[32,33],[],[.asg 'G' (.list []),.aS [39,64] 'C' [.iff (.not (.call 54 ['D','J','c'])) [.ex (.lm .append 'G' ['J'])] []],.aS [39,64] 'D' [.iff (.cmp .lt (.call 46 ['C','J']) (.cI 0)) [.ex (.lm .append 'G' ['J'])] []],.ret (.bi .sorted ['G'])]⟩
def Jx:Fd:=⟨[3,86,62,66,105],[],[.iff (.cmp .is 3.14 .cN) [.stop] [],.aS [39] (.call 43 ['e','´']) [.ex (.aJ 3.14 100 ['&',.ar .add 'y' (.cI 1),.ar .add 'a' (.cI 1),'J',.call 52 ['e','J']])]]⟩
def Jy:Fd:=⟨[27,17],[],[.asg '¬' (.cB false),.aS [86,62,63] '4' [.iff (.call 55 ['>','y','a','b']) [.asg '¬' (.cB true)] []],.ret '¬']⟩
def Jz:Fd:=⟨[63,39],[],[.aS [6] (.jq [.bi .len ['b']]) [.iff (.cmp .eq (.idx (.idx 'b' ')') (.cI 0)) 'J') [.ret ')'] []],.ret (.cI (-1))]⟩
def JA:Fd:=⟨[93],[],[.ret (.fG (.cmp .is '¨' .cN) (.cI 0) 93.103)]⟩
def JB:Fd:=⟨[93],[],[.ret (.ar .sub (.ar .sub 93.103 (.call 47 [93.95])) (.call 47 [93.96]))]⟩
def JC:Fd:=⟨[3,61,62],[],[.iff (.cmp .is 3.27 .cN) [.stop] [],.ret (.comp (.tup [.ar .add 'w' (.cI 1),.ar .add 'x' (.cI 1),'b']) [84,85,63] (.aJ 3.27 106 [.ar .sub '`' (.cI 1),.ar .sub 'a' (.cI 1)]) [])]⟩
def C9:Fd:=⟨[107,63,39],[],[.asg 'G' (.call 52 ['b','J']),.iff (.or (.cmp .is 'G' .cN) (.cmp .is '¶' .cN)) [.ret (.and (.cmp .is 'G' .cN) (.cmp .is '¶' .cN))] [],.ret (.call 56 [.idx 'G' (.cI 0),.idx '¶' (.cI 0)])]⟩
def JD:Fd:=⟨[63,39],[],[.ret (.comp '§' [92] 'b' [.cmp .ne (.idx '§' (.cI 0)) 'J'])]⟩
def JF:Fd:=⟨[63,39],[],[.asg ')' (.call 46 ['b','J']),.ret (.fG (.cmp .ge ')' (.cI 0)) (.tup [.idx (.idx 'b' ')') (.cI 1)]) .cN)]⟩
def JG:Fd:=⟨[93],[],[.iff (.cmp .aX 93.96 .cN) [.ret (.call 57 [93.96])] [],.fH (.and (.cmp .aX 93.104 .cN) (.cmp .is (.attr 93.104 96) '¨')) [.asg '¨' 93.104],.ret 93.104]⟩
def JH:Fd:=⟨[63,39,64],[],[.asg ')' (.call 46 ['b','J']),.ret (.and (.cmp .ge ')' (.cI 0)) (.call 56 [.idx (.idx 'b' ')') (.cI 1),'c']))]⟩
def JK:Fd:=⟨[27,86,62,63],[],[.asg '¬' (.cB false),.aS [93] (.call 58 ['>','y','a']) [.iff (.not (.call 59 ['b',93.63])) [.asg 93.63 (.bi .lst ['b']),.asg '¬' (.cB true)] []],.ex (.call 60 ['>','y','a']),.ret '¬']⟩
def Ss:Fd:=⟨[32,33],[],[.iff (.or (.ru 'C') (.ru 'D')) [.stop] [],.ret (.cmp .eq 'C' 'D')]⟩
def JL:Fd:=⟨[93],[],[.fH (.cmp .aX 93.95 .cN) [.asg '¨' 93.95],.ret '¨']⟩
def JM:Fd:=⟨[27,86,62],[],[.iff (.cmp .ge 'y' 'a') [.ret (.list [])] [],.ex (.call 61 [27.58,'y']),.ex (.call 61 [27.58,'a']),.asg '¨' (.idx (.call 32 [27.58,'y']) (.cI 0)),.asg 'G' (.list []),.asg 'ª' (.ar .sub 'a' 'y'),.fH (.cmp .gt 'ª' (.cI 0)) [.ex (.lm .append 'G' ['¨']),.asg 'ª' (.ar .sub 'ª' (.call 48 ['¨'])),.asg '¨' (.call 53 ['¨'])],.ret 'G']⟩
def JN:Fd:=⟨[32,33],[],[.iff (.cmp .ne (.bi .len ['C']) (.bi .len ['D'])) [.ret (.cB false)] [],.aS [39,64] 'C' [.iff (.not (.call 54 ['D','J','c'])) [.ret (.cB false)] []],.ret (.cB true)]⟩
def JQ:Fd:=⟨[27,86,62],[],[.asg ')' 'y',.fH (.and (.cmp .le ')' 'a') (.cmp .lt ')' (.call 31 [27.58]))) [.gO ['¨','­'] (.call 32 [27.58,')']),.asg 'z' (.ar .add '­' (.call 48 ['¨'])),.ex (.call 62 ['>','­']),.asg ')' 'z'],.ex (.call 62 ['>','a'])]⟩
def JR:Fd:=⟨[58,6],[],[.iff (.not (.gM .lt .lt (.cI 0) ')' (.call 31 [']']))) [.ret .cN] [],.gO ['¨','y'] (.call 32 [']',')']),.iff (.cmp .eq 'y' ')') [.ret .cN] [],.asg '·' (.ar .sub (.call 48 ['¨']) (.ar .sub ')' 'y')),.ex (.call 63 ['¨',.ar .sub (.cI 0) '·']),.ex (.call 64 [']','¨',.new 1 ['·',93.63]])]⟩
def JS:Fd:=⟨[27,6],[],[.iff (.not (.gM .lt .lt (.cI 0) ')' (.call 31 [27.58]))) [.ret .cN] [],.gO ['¨','y'] (.call 32 [27.58,')']),.iff (.cmp .ne 'y' ')') [.ret .cN] [],.asg '©' (.call 65 ['¨']),.iff (.call 59 [94.63,93.63]) [.asg '%' (.call 48 ['¨']),.ex (.call 66 [27.58,'¨']),.ex (.call 63 ['©','%']),.ex (.call 67 [27.58,'©'])] []]⟩
def Dd:Fd:=⟨[93,2],[],[.fH (.cmp .aX '¨' .cN) [.asg 93.103 (.ar .add 93.103 '%'),.asg '¨' 93.104]]⟩
def JT:Fd:=⟨[58,93,88],[],[.iff (.cmp .is 93.96 .cN) [.ex (.call 68 ['¨','{'])] [.asg '¨' (.call 57 [93.96]),.ex (.call 69 ['¨','{'])],.ex (.call 63 [88.104,88.103]),.ex (.call 67 [']',88.104])]⟩
def JV:Fd:=⟨[93],[],[.iff (.cmp .aX 93.95 .cN) [.ret (.call 70 [93.95])] [],.fH (.and (.cmp .aX 93.104 .cN) (.cmp .is (.attr 93.104 95) '¨')) [.asg '¨' 93.104],.ret 93.104]⟩
def Df:Fd:=⟨[58,93],[],[.ex (.call 63 [93.104,.ar .sub (.cI 0) (.call 48 ['¨'])]),.asg '¸' 93.104,.iff (.or (.cmp .is 93.95 .cN) (.cmp .is 93.96 .cN)) [.asg '¹' (.fG (.cmp .is 93.96 .cN) 93.95 93.96),.ex (.call 71 [']','¨','¹']),.ex (.call 67 [']','¸']),.ret .cN] [],.asg 'º' 93.95,.asg '»' (.call 57 [93.96]),.ex (.call 71 [']','¨',93.96]),.ex (.call 69 ['»','º']),.fH (.cmp .aX '»' '¸') [.asg 112.103 (.ar .add 112.103 111.103),.asg '»' 112.104],.ex (.call 67 [']',111.104])]⟩
def kQ:Fd:=⟨[58,93],[],[.fH (.cmp .aX '¨' .cN) [.asg '¨' (.attr (.call 72 [']','¨']) 104)]]⟩
def Dg:Fd:=⟨[93,110],[],[.asg 93.96 '¹',.iff (.cmp .aX '¹' .cN) [.asg 110.104 '¨'] []]⟩
def Dh:Fd:=⟨[93,110],[],[.asg 93.95 '¹',.iff (.cmp .aX '¹' .cN) [.asg 110.104 '¨'] []]⟩
def JW:Fd:=⟨[93],[],[.fH (.cmp .aX 93.96 .cN) [.asg '¨' 93.96],.ret '¨']⟩
def Di:Fd:=⟨[58,93,33],[],[.asg '³' 93.104,.iff (.cmp .aX 'D' .cN) [.asg 33.104 '³'] [],.iff (.cmp .is '³' .cN) [.asg 58.79 'D'] [.iff (.cmp .is 104.95 '¨') [.asg 104.95 'D'] [.asg 104.96 'D']]]⟩
def JX:Fd:=⟨[58,93],[],[.asg '¼' (.list ['¨']),.asg '½' '¨',.fH (.cmp .gt (.bi .len ['¼']) (.cI 0)) [.asg '»' (.lm .pop '¼' []),.iff (.call 73 ['»']) [.asg '¹' (.call 74 [']','»']),.asg '½' (.fG (.cmp .is '»' '½') '¹' '½'),.ex (.lm .extend '¼' [.list ['¹','»']])] [.iff (.call 75 ['»']) [.asg '¹' (.call 76 [']','»']),.asg '½' (.fG (.cmp .is '»' '½') '¹' '½'),.ex (.lm .extend '¼' [.list ['¹','»']])] []]],.ret '½']⟩
def JY:Fd:=⟨[93],[],[.asg '¹' 93.95,.asg '¾' (.ar .sub (.call 47 ['¹']) (.call 47 [93.96])),.iff (.cmp .le '¾' (.cI 0)) [.ret (.cB false)] [],.ret (.cmp .lt (.bi .abs [.ar .sub (.call 47 [110.95]) (.ar .add (.ar .sub 93.103 110.103) (.call 47 [110.96]))]) '¾')]⟩
def JZ:Fd:=⟨[58,93],[],[.asg '¹' 93.95,.ex (.call 71 [']','¨','¹']),.asg '²' 93.103,.asg 93.103 (.ar .add (.ar .sub 93.103 110.103) (.call 47 [110.96])),.ex (.call 69 ['¨',110.96]),.ex (.call 68 ['¹','¨']),.asg 110.103 '²',.ret '¹']⟩
def J0:Fd:=⟨[93],[],[.asg '¹' 93.96,.asg '¾' (.ar .sub (.call 47 ['¹']) (.call 47 [93.95])),.iff (.cmp .le '¾' (.cI 0)) [.ret (.cB false)] [],.ret (.cmp .lt (.bi .abs [.ar .sub (.call 47 [110.96]) (.ar .add (.ar .sub 93.103 110.103) (.call 47 [110.95]))]) '¾')]⟩
def J1:Fd:=⟨[58,93],[],[.asg '¹' 93.96,.ex (.call 71 [']','¨','¹']),.asg '²' 93.103,.asg 93.103 (.ar .add (.ar .sub 93.103 110.103) (.call 47 [110.95])),.ex (.call 68 ['¨',110.95]),.ex (.call 69 ['¹','¨']),.asg 110.103 '²',.ret '¹']⟩
def J2:Fd:=⟨[22],[],[.iff (.not (.aJ '9' 116 [])) [.ex (.lm .append 22.17 [.glob 884])] []]⟩
def J3:Fd:=⟨[22,6,56],[],[.ex (.aJ '9' 117 [.bi .len ['[']]),.ex (.aJ '9' 118 [')']),.asg (.gN 22.73 ')' (.ar .add ')' (.bi .len ['[']))) '[',.asg 22.74 (.ar .add ')' (.bi .len ['[']))]⟩
def uH:Fd:=⟨[22,61,62,119],[],[.aS [39] (.aJ '9' 65 []) [.stop]]⟩
def J4:Fd:=⟨[22],[],[.ret (.cmp .lt 22.50 22.9)]⟩
def Dj:Fd:=⟨[22,3,61,62,39,107],[],[.ex (.aJ 22.15 120 ['`','a','J','¶',.aJ '&' 21 [],3.50])]⟩
def J5:Fd:=⟨[22,17],[],[.ret (.call 45 ['9','4'])]⟩
def J6:Fd:=⟨[22,107,88],[],[.asg '5' (.tup [.cS 71,'¶']),.asg 22.17 (.comp (.fG (.cmp .eq 'f' '5') (.tup [.cS 71,'{']) 'f') [67] 22.17 [])]⟩
def J7:Fd:=⟨[22,86,62],[],[.ret (.call 42 ['9','y','a'])]⟩
def Dl:Fd:=⟨[22,121],[],[.iff (.not 'Ä') [.asg 22.50 22.9] [.iff (.not (.aJ '9' 21 [])) [.asg 22.9 (.ar .add 22.9 (.cI 1))] []]]⟩
def J8:Fd:=⟨[22],[],[.ret (.ar .add (.ar .sub (.bi .len [22.73]) 22.75) 22.74)]⟩
def J9:Fd:=⟨[22],[],[.ret (.aJ 22.41 38 [])]⟩
def Ka:Fd:=⟨[22],[],[.ret 22.9]⟩
def pW:Fd:=⟨[22,122],[],[.asg 22.9 (.ar .add 22.9 (.cI 1)),.iff 'Å' [.asg 22.49 22.9] []]⟩
def Kc:Fd:=⟨[22],[],[.ret (.or (.cmp .eq (.bi .len [22.17]) (.cI 0)) (.cmp .eq (.idx 22.17 (.cI (-1))) (.glob 884)))]⟩
def Kd:Fd:=⟨[22,6],[],[.iff (.cmp .lt ')' 22.74) [.asg 'º' (.gN 22.73 (some ')') (some 22.74)),.asg (.gN 22.73 (.ar .sub 22.75 (.bi .len ['º'])) 22.75) 'º',.asg 22.75 (.ar .sub 22.75 (.bi .len ['º']))] [.asg 'º' (.gN 22.73 (some 22.75) (some (.ar .sub (.ar .add 22.75 ')') 22.74))),.asg (.gN 22.73 22.74 (.ar .add 22.74 (.bi .len ['º']))) 'º',.asg 22.75 (.ar .add 22.75 (.bi .len ['º']))],.asg 22.74 ')']⟩
def Dm:Fd:=⟨[22,61,62,39,107,21,10],[],[.iff (.and 22.81 (.cmp .lt '`' 'a')) [.ex (.aJ '9' 123 ['8','-']),.ex (.lm .append 22.17 [.tup [.cS 70,'`','a','J','¶']])] []]⟩
def Ke:Fd:=⟨[22],[],[.ret (.bi .sorted [22.17])]⟩
def Dn:Fd:=⟨[22,99],[],[.asg 'Ç' (.ar .sub '®' (.ar .sub 22.75 22.74)),.iff (.cmp .gt 'Ç' (.cI 0)) [.asg (.gN 22.73 22.75 22.75) (.ar .rep (.list [.cI 0]) (.ar .add 'Ç' 22.42)),.asg 22.75 (.ar .add (.ar .add 22.75 'Ç') 22.42)] []]⟩
def Kf:Fd:=⟨[22,21,10],[],[.iff (.and (.not '8') (.cmp .ne '-' 22.83)) [.ex (.lm .append 22.17 [.tup [.cS 71,'-']]),.asg 22.83 '-'] []]⟩
def fns:List Fd:=[f0,f1,f2,f3,f4,f5,f6,f7,f8,f9,kN,nh,pV,I8,I9,Ja,Jb,Jc,Jd,Je,C6,Jf,Jg,rF,Jh,Ji,nj,Jj,Jk,Jl,Jm,Jn,Jo,Jp,kP,C7,C8,Jq,Jr,Js,Jt,Ju,Jv,Jw,Jx,Jy,Jz,JA,JB,JC,C9,JD,JF,JG,JH,JK,Ss,JL,JM,JN,JQ,JR,JS,Dd,JT,JV,Df,kQ,Dg,Dh,JW,Di,JX,JY,JZ,J0,J1,J2,J3,uH,J4,Dj,J5,J6,J7,Dl,J8,J9,Ka,pW,Kc,Kd,Dm,Ke,Dn,Kf]
end Tactic
namespace Tactic
open PySem Lh.Tactic
structure FR where
 a:Nat
 cd:Nat
 nm:String
 ql:String
 st:Stmt
 dV:Value
 pm:Value
def fT:List FR:=[
 ⟨1145,1144,"law","law",(st 111),N,dS⟩,⟨35,34,"__init__","LispSignal.__init__",(su 2 0),N,mn⟩,⟨1097,1096,"_law_draw","_law_draw",(st 103),N,dS⟩,⟨1109,1108,"_law_buffer","_law_buffer",(st 105),N,dS⟩,⟨1140,1139,"_law_deed","_law_deed",(st 110),N,dS⟩,⟨1133,1132,"_law_due","_law_due",(st 109),N,dS⟩,⟨1121,1120,"_law_done","_law_done",(st 107),N,dS⟩,⟨1114,1113,"_law_shown","_law_shown",(st 106),N,dS⟩,⟨1029,1028,"undo_group","undo_group",(st 97),N,ly⟩,⟨694,693,"__init__","Buffer.__init__",(su 68 0),(R 687),eX⟩,⟨854,853,"insert","insert",(st 79),(R 847),gC⟩,⟨324,323,"__init__","TextProps.__init__",(su 41 0),N,cP⟩,⟨1064,1063,"__init__","Recording.__init__",(su 101 0),N,ml⟩,⟨1104,1103,"_law_pick","_law_pick",(st 104),N,dS⟩,⟨1126,1125,"_law_turned","_law_turned",(st 108),N,dS⟩,⟨469,468,"put","put",(st 58),N,mj⟩,⟨483,482,"remove","remove",(st 60),N,mj⟩,⟨476,475,"put_all","put_all",(st 59),N,mj⟩,⟨380,379,"properties_at","properties_at",(st 42),N,cP⟩,⟨1022,1021,"above_boundaries","above_boundaries",(st 96),N,ly⟩,⟨1015,1014,"undo_row","undo_row",(st 95),N,ly⟩,⟨497,496,"__init__","GapText.__init__",(su 62 0),N,gB⟩,⟨588,587,"__init__","Markers.__init__",(su 64 0),N,mi⟩,⟨846,845,"put_in","put_in",(st 78),N,gC⟩,⟨135,134,"__init__","IntervalTree.__init__",(su 15 0),N,aR⟩,⟨898,897,"__init__","UndoList.__init__",(su 88 0),N,me⟩,⟨462,461,"turn_rows","turn_rows",(st 57),N,mj⟩,⟨69,68,"plist_with","plist_with",(st 7),N,mh⟩,
 ⟨93,92,"plist_removed","plist_removed",(st 11),N,mh⟩,⟨443,442,"need_range","need_range",(st 54),N,mj⟩,⟨457,456,"need_writable_props","need_writable_props",(st 56),N,mj⟩,⟨163,162,"text_length","text_length",(st 18),N,aR⟩,⟨240,239,"find_interval","find_interval",(st 29),N,aR⟩,⟨987,986,"need_visible","need_visible",(st 91),N,ly⟩,⟨883,882,"set_property","set_property",(st 85),N,rA⟩,⟨790,789,"need_writable","need_writable",(st 70),N,gC⟩,⟨797,796,"reached","reached",(st 71),N,gC⟩,⟨804,803,"tell_ahead","tell_ahead",(st 72),N,gC⟩,⟨825,824,"text_in","text_in",(st 75),N,gC⟩,⟨839,838,"hung_in","hung_in",(st 77),N,gC⟩,⟨811,810,"tell_behind","tell_behind",(st 73),N,gC⟩,⟨114,113,"__init__","Interval.__init__",(su 14 0),N,aR⟩,⟨415,414,"rows_between","rows_between",(st 47),N,cP⟩,⟨100,99,"changed_properties","changed_properties",(st 12),N,mh⟩,⟨450,449,"told_undo","told_undo",(st 55),N,mj⟩,⟨422,421,"put_rows","put_rows",(st 49),N,cP⟩,⟨55,54,"plist_find","plist_find",(st 5),N,mh⟩,⟨149,148,"total_of","total_of",(st 16),N,aR⟩,⟨156,155,"own_length","own_length",(st 17),N,aR⟩,⟨866,865,"plist_rows","plist_rows",(st 82),N,rA⟩,⟨878,877,"is_value","is_value",(st 84),N,rA⟩,⟨74,73,"plist_without","plist_without",(st 8),N,mh⟩,⟨62,61,"plist_get","plist_get",(st 6),N,mh⟩,⟨261,260,"following","following",(st 32),N,aR⟩,⟨81,80,"holds_pair","holds_pair",(st 9),N,mh⟩,⟨408,407,"set_properties","set_properties",(st 46),N,cP⟩,
 ⟨48,47,"eq","eq",(st 4),N,mh⟩,⟨247,246,"leftmost","leftmost",(st 30),N,aR⟩,⟨387,386,"range_nodes","range_nodes",(st 43),N,cP⟩,⟨88,87,"same_plist","same_plist",(st 10),N,mh⟩,⟨401,400,"join_range","join_range",(st 45),N,cP⟩,⟨289,288,"split_at","split_at",(st 36),N,aR⟩,⟨394,393,"join_at","join_at",(st 44),N,cP⟩,⟨233,232,"add_above","add_above",(st 28),N,aR⟩,⟨275,274,"put_behind","put_behind",(st 34),N,aR⟩,⟨268,267,"preceding","preceding",(st 33),N,aR⟩,⟨296,295,"drop_interval","drop_interval",(st 37),N,aR⟩,⟨226,225,"settle_up","settle_up",(st 27),N,aR⟩,⟨184,183,"set_right","set_right",(st 21),N,aR⟩,⟨177,176,"set_left","set_left",(st 20),N,aR⟩,⟨254,253,"rightmost","rightmost",(st 31),N,aR⟩,⟨170,169,"put_in_stead","put_in_stead",(st 19),N,aR⟩,⟨219,218,"settle","settle",(st 26),N,aR⟩,⟨205,204,"right_turn_helps","right_turn_helps",(st 24),N,aR⟩,⟨191,190,"rotate_right","rotate_right",(st 22),N,aR⟩,⟨212,211,"left_turn_helps","left_turn_helps",(st 25),N,aR⟩,⟨198,197,"rotate_left","rotate_left",(st 23),N,aR⟩,⟨919,918,"boundary","UndoList.boundary",(su 88 3),N,me⟩,⟨539,538,"insert","GapText.insert",(su 62 6),N,gB⟩,⟨623,622,"inserted","Markers.inserted",(su 64 5),N,mi⟩,⟨764,763,"is_modified","Buffer.is_modified",(su 68 10),N,eX⟩,⟨1083,1082,"property_changes","Recording.property_changes",(su 101 3),N,ml⟩,⟨366,365,"put_rows","TextProps.put_rows",(su 41 6),N,cP⟩,⟨959,958,"renew_unmodified","UndoList.renew_unmodified",(su 88 9),N,me⟩,
 ⟨359,358,"rows_between","TextProps.rows_between",(su 41 5),N,cP⟩,⟨771,770,"set_modified","Buffer.set_modified",(su 68 11),N,eX⟩,⟨504,503,"size","GapText.size",(su 62 1),N,gB⟩,⟨729,728,"size","Buffer.size",(su 68 5),N,eX⟩,⟨757,756,"tick","Buffer.tick",(su 68 9),N,eX⟩,⟨778,777,"touch","Buffer.touch",(su 68 12),N,eX⟩,⟨912,911,"is_at_boundary","UndoList.is_at_boundary",(su 88 2),N,me⟩,⟨525,524,"move_gap","GapText.move_gap",(su 62 4),N,gB⟩,⟨954,953,"note_property","UndoList.note_property",(su 88 8),N,me⟩,⟨595,594,"numbers","Markers.numbers",(su 64 1),N,mi⟩,⟨532,531,"widen_gap","GapText.widen_gap",(su 62 5),N,gB⟩,⟨933,932,"note_state","UndoList.note_state",(su 88 5),N,me⟩]
def cT:List Nat:=[38,117,138,369,570,640,675,781,969,1046,1086]
def aT:List (Nat×Nat):=[(0,24),(0,23),(1,95),(1,104),(1,63),(1,96),(1,103),(2,79),(3,58),(4,73),(4,75),(4,74),(4,42),(5,17),(7,45),(7,49),(7,55),(7,48),(7,11),(7,51),(7,53),(7,47),(7,43),(7,40),(7,39),(7,52),(7,44),(7,27),(7,50),(7,54),(7,41),(7,9),(7,14),(7,46),(8,80),(8,81),(8,83),(8,82),(8,17),(9,56),(10,15)]
def mT:List (Nat×Nat×Nat):=[(3,101,82),(3,106,84),(4,68,78),(4,118,91),(4,38,86),(4,117,94),(5,78,79),(5,65,93),(7,21,80),(7,26,85),(7,38,87),(7,10,88),(7,91,89),(8,16,77),(8,116,90),(8,120,92),(8,123,95),(8,72,83),(10,100,81)]
def kT:List (Nat×Nat):=[(1,41),(2,24),(3,11),(4,21),(5,22),(7,9),(8,25),(10,12)]
def tP:List Nat:=[1142,30,1092,1106,1135,1128,1116,1111,1024,689,849,319,1059,1099,1123,464,478,471,375,1017,1010,492,583,841,130,893,459,64,90,438,452,158,235,982,880,785,792,799,820,834,806,109,410,95,445,417,50,144,151,863,873,71,57,256,76,403,43,242,382,83,396,284,389,228,270,263,291,221,179,172,249,165,214,200,186,207,193,914,534,618,759,1078,361,956,354,766,499,724,752,773,907,520,949,590,527,928]
end Tactic
namespace Tactic
open PySem PySem.W PySem.Calls PyProof.Rows Lh.Tactic
noncomputable section
variable{b:Bool}{sc:Scope}{es:List Expr}
def nm(k:Nat):Str:=match gR[k]? with
 |some x=>Str.ofString x
 |none=>⟨(List.replicate k 97).toArray⟩
def kR(x:Str):Option Value:=(iU.find? λe=>Str.ofString e.1 == x).map (·.2.2)
def gF(f:Nat):Nat:=match fT[f]? with
 |some r=>r.a
 |none=>0
def cD(c:Nat):Nat:=cT.getD c 0
def gS(o:Option NameKind)(a b c d:Bool):Bool:=match o with
 |some .local=>a
 |some .cell=>b
 |some .free=>c
 |some .globalImplicit=>d
 |_=>false
def oz{o:Option NameKind}{a c d:Bool}(h:gS o a b c d=true):(o=some .local/\a=true)\/(o=some .cell/\b=true)\/(o=some .free/\c=true)\/(o=some .globalImplicit/\d=true):=by
 induction o using Option.casesOn
 ·show(aZ h).elim
 ·rename_i k;induction k using NameKind.casesOn
  ·show .inl ⟨rfl,h⟩
  ·show .inr (.inl ⟨rfl,h⟩)
  ·show .inr (.inr (.inl ⟨rfl,h⟩))
  ·show(aZ h).elim
  ·show .inr (.inr (.inr ⟨rfl,h⟩))
theorem AH{o:Option NameKind}(h:gS o true false false false=true):o=some .local:=(oz h).elim (·.1) λh=>by rcases h with⟨_,h⟩ | ⟨_,h⟩ | ⟨_,h⟩<;>show(aZ h).elim
theorem AI{o:Option NameKind}{c:Bool}(h:gS o true b c false=true):o=some .local\/(o=some .cell/\b=true)\/(o=some .free/\c=true):=(oz h).imp (·.1) λh=>h.imp id λh=>h.elim id λh=>(aZ h.2).elim
def fW(sc:Scope)(x:Nat)(n:Str):Bool:=n == nm x && gS (sc.names.lookup n) true true true false
def AJ(sc:Scope)(n:Str):Bool:=gS (sc.names.lookup n) false false false true
def jT(sc:Scope)(n:Str)(a:Nat):Bool:=AJ sc n && (match kR n with
 |some (.ref b)=>Nat.beq b a
 |_=>false)
def jt(sc:Scope)(n:Str)(w:String):Bool:=AJ sc n && n == Str.ofString w && (kR n).isNone
def Sv:Cm->CmpOp
 | .lt=>.Lt
 | .le=>.LtE
 | .gt=>.Gt
 | .ge=>.GtE
 | .eq=>.Eq
 | .ne=>.NotEq
 | .is=>.Is
 | .aX=>.IsNot
 | .og=>.NotIn
def oA(p:CmpOp)(o:Cm):Bool:=decide (p=Sv o)
def Sw:Ar->Operator
 | .add=>.Add
 | .sub=>.Sub
 | .mul=>.Mult
 | .fdiv=>.FloorDiv
 | .mod=>.Mod
 | .cat=>.Add
 | .rep=>.Mult
def Dp(p:Operator)(o:Ar):Bool:=decide (p=Sw o)
def wz:Bi->String
 | .len=>"len"
 | .lst=>"list"
 | .dict=>"dict"
 | .sorted=>"sorted"
 | .abs=>"abs"
 | .min=>"min"
 | .max=>"max"
def Dq:Lm->String
 | .append=>"append"
 | .extend=>"extend"
 | .pop=>"pop"
theorem vI{c:Prop} [Decidable c]{f:c->Bool}(h:(if k:c then f k else false)=true):∃k,f k=true:=
 if k:c then ⟨k,(dif_pos k).symm.trans h⟩ else absurd ((dif_neg k).symm.trans h) aZ
def xO(e:Expr)(p:BoolOp->List Expr->Pos->Bool):Bool:=if h:e.ctorIdx=0 then Expr.BoolOp.elim (motive_1:=λ_=>Bool) e h p else false
@[elab_as_elim] theorem wA{e:Expr}{p}{P:Expr->Prop}(h:xO e p=true)(k:∀a b c,p a b c=true->P (.BoolOp a b c)):P e:=
 let ⟨i,_⟩:=vI h;Expr.BoolOp.elim (motive_1:=λe=>xO e p=true->P e) e i k h
def xB(e:Expr)(p:Expr->Operator->Expr->Pos->Bool):Bool:=if h:e.ctorIdx=2 then Expr.BinOp.elim (motive_1:=λ_=>Bool) e h p else false
@[elab_as_elim] theorem wC{e:Expr}{p}{P:Expr->Prop}(h:xB e p=true)(k:∀a b c d,p a b c d=true->P (.BinOp a b c d)):P e:=
 let ⟨i,_⟩:=vI h;Expr.BinOp.elim (motive_1:=λe=>xB e p=true->P e) e i k h
def xU(e:Expr)(p:UnaryOp->Expr->Pos->Bool):Bool:=if h:e.ctorIdx=3 then Expr.UnaryOp.elim (motive_1:=λ_=>Bool) e h p else false
@[elab_as_elim] theorem oB{e:Expr}{p}{P:Expr->Prop}(h:xU e p=true)(k:∀a b c,p a b c=true->P (.UnaryOp a b c)):P e:=
 let ⟨i,_⟩:=vI h;Expr.UnaryOp.elim (motive_1:=λe=>xU e p=true->P e) e i k h
def xW(e:Expr)(p:Arguments->Expr->Scope->Pos->Bool):Bool:=if h:e.ctorIdx=4 then Expr.Lambda.elim (motive_1:=λ_=>Bool) e h p else false
@[elab_as_elim] theorem Ds{e:Expr}{p}{P:Expr->Prop}(h:xW e p=true)(k:∀a b c d,p a b c d=true->P (.Lambda a b c d)):P e:=
 let ⟨i,_⟩:=vI h;Expr.Lambda.elim (motive_1:=λe=>xW e p=true->P e) e i k h
def xI(e:Expr)(p:Expr->Expr->Expr->Pos->Bool):Bool:=if h:e.ctorIdx=5 then Expr.IfExp.elim (motive_1:=λ_=>Bool) e h p else false
@[elab_as_elim] theorem Dt{e:Expr}{p}{P:Expr->Prop}(h:xI e p=true)(k:∀a b c d,p a b c d=true->P (.IfExp a b c d)):P e:=
 let ⟨i,_⟩:=vI h;Expr.IfExp.elim (motive_1:=λe=>xI e p=true->P e) e i k h
def xD(e:Expr)(p:List (Option Expr)->List Expr->Pos->Bool):Bool:=if h:e.ctorIdx=6 then Expr.Dict.elim (motive_1:=λ_=>Bool) e h p else false
@[elab_as_elim] theorem wD{e:Expr}{p}{P:Expr->Prop}(h:xD e p=true)(k:∀a b c,p a b c=true->P (.Dict a b c)):P e:=
 let ⟨i,_⟩:=vI h;Expr.Dict.elim (motive_1:=λe=>xD e p=true->P e) e i k h
def xG(e:Expr)(p:Expr->List Comprehension->Scope->Pos->Bool):Bool:=if h:e.ctorIdx=8 then Expr.ListComp.elim (motive_1:=λ_=>Bool) e h p else false
@[elab_as_elim] theorem rG{e:Expr}{p}{P:Expr->Prop}(h:xG e p=true)(k:∀a b c d,p a b c d=true->P (.ListComp a b c d)):P e:=
 let ⟨i,_⟩:=vI h;Expr.ListComp.elim (motive_1:=λe=>xG e p=true->P e) e i k h
def xM(e:Expr)(p:Expr->List CmpOp->List Expr->Pos->Bool):Bool:=if h:e.ctorIdx=15 then Expr.Compare.elim (motive_1:=λ_=>Bool) e h p else false
@[elab_as_elim] theorem rH{e:Expr}{p}{P:Expr->Prop}(h:xM e p=true)(k:∀a b c d,p a b c d=true->P (.Compare a b c d)):P e:=
 let ⟨i,_⟩:=vI h;Expr.Compare.elim (motive_1:=λe=>xM e p=true->P e) e i k h
def xF(e:Expr)(p:Expr->List Expr->List Keyword->Pos->Bool):Bool:=if h:e.ctorIdx=16 then Expr.Call.elim (motive_1:=λ_=>Bool) e h p else false
@[elab_as_elim] theorem cG{e:Expr}{p}{P:Expr->Prop}(h:xF e p=true)(k:∀a b c d,p a b c d=true->P (.Call a b c d)):P e:=
 let ⟨i,_⟩:=vI h;Expr.Call.elim (motive_1:=λe=>xF e p=true->P e) e i k h
def xC(e:Expr)(p:Const->Nat->Pos->Bool):Bool:=if h:e.ctorIdx=19 then Expr.Constant.elim (motive_1:=λ_=>Bool) e h p else false
@[elab_as_elim] theorem fX{e:Expr}{p}{P:Expr->Prop}(h:xC e p=true)(k:∀a b c,p a b c=true->P (.Constant a b c)):P e:=
 let ⟨i,_⟩:=vI h;Expr.Constant.elim (motive_1:=λe=>xC e p=true->P e) e i k h
def xA(e:Expr)(p:Expr->Str->Pos->Bool):Bool:=if h:e.ctorIdx=20 then Expr.Attribute.elim (motive_1:=λ_=>Bool) e h p else false
@[elab_as_elim] theorem fY{e:Expr}{p}{P:Expr->Prop}(h:xA e p=true)(k:∀a b c,p a b c=true->P (.Attribute a b c)):P e:=
 let ⟨i,_⟩:=vI h;Expr.Attribute.elim (motive_1:=λe=>xA e p=true->P e) e i k h
def xS(e:Expr)(p:Expr->Expr->Pos->Bool):Bool:=if h:e.ctorIdx=21 then Expr.Subscript.elim (motive_1:=λ_=>Bool) e h p else false
@[elab_as_elim] theorem iw{e:Expr}{p}{P:Expr->Prop}(h:xS e p=true)(k:∀a b c,p a b c=true->P (.Subscript a b c)):P e:=
 let ⟨i,_⟩:=vI h;Expr.Subscript.elim (motive_1:=λe=>xS e p=true->P e) e i k h
def xN(e:Expr)(p:Str->Pos->Bool):Bool:=if h:e.ctorIdx=23 then Expr.Name.elim (motive_1:=λ_=>Bool) e h p else false
@[elab_as_elim] theorem bx{e:Expr}{p}{P:Expr->Prop}(h:xN e p=true)(k:∀a b,p a b=true->P (.Name a b)):P e:=
 let ⟨i,_⟩:=vI h;Expr.Name.elim (motive_1:=λe=>xN e p=true->P e) e i k h
def xL(e:Expr)(p:List Expr->Pos->Bool):Bool:=if h:e.ctorIdx=24 then Expr.List.elim (motive_1:=λ_=>Bool) e h p else false
@[elab_as_elim] theorem wF{e:Expr}{p}{P:Expr->Prop}(h:xL e p=true)(k:∀a b,p a b=true->P (.List a b)):P e:=
 let ⟨i,_⟩:=vI h;Expr.List.elim (motive_1:=λe=>xL e p=true->P e) e i k h
def xT(e:Expr)(p:List Expr->Nat->Pos->Bool):Bool:=if h:e.ctorIdx=25 then Expr.Tuple.elim (motive_1:=λ_=>Bool) e h p else false
@[elab_as_elim] theorem lC{e:Expr}{p}{P:Expr->Prop}(h:xT e p=true)(k:∀a b c,p a b c=true->P (.Tuple a b c)):P e:=
 let ⟨i,_⟩:=vI h;Expr.Tuple.elim (motive_1:=λe=>xT e p=true->P e) e i k h
def xK(e:Expr)(p:Option Expr->Option Expr->Option Expr->Pos->Bool):Bool:=if h:e.ctorIdx=26 then Expr.Slice.elim (motive_1:=λ_=>Bool) e h p else false
@[elab_as_elim] theorem rI{e:Expr}{p}{P:Expr->Prop}(h:xK e p=true)(k:∀a b c d,p a b c d=true->P (.Slice a b c d)):P e:=
 let ⟨i,_⟩:=vI h;Expr.Slice.elim (motive_1:=λe=>xK e p=true->P e) e i k h
def yR(e:Stmt)(p:Option Expr->Pos->Bool):Bool:=if h:e.ctorIdx=3 then Stmt.Return.elim (motive_2:=λ_=>Bool) e h p else false
@[elab_as_elim] theorem wG{e:Stmt}{p}{P:Stmt->Prop}(h:yR e p=true)(k:∀a b,p a b=true->P (.Return a b)):P e:=
 let ⟨i,_⟩:=vI h;Stmt.Return.elim (motive_2:=λe=>yR e p=true->P e) e i k h
def yA(e:Stmt)(p:List Expr->Expr->Pos->Bool):Bool:=if h:e.ctorIdx=5 then Stmt.Assign.elim (motive_2:=λ_=>Bool) e h p else false
@[elab_as_elim] theorem rJ{e:Stmt}{p}{P:Stmt->Prop}(h:yA e p=true)(k:∀a b c,p a b c=true->P (.Assign a b c)):P e:=
 let ⟨i,_⟩:=vI h;Stmt.Assign.elim (motive_2:=λe=>yA e p=true->P e) e i k h
def yF(e:Stmt)(p:Expr->Expr->List Stmt->List Stmt->Pos->Bool):Bool:=if h:e.ctorIdx=9 then Stmt.For.elim (motive_2:=λ_=>Bool) e h p else false
@[elab_as_elim] theorem Du{e:Stmt}{p}{P:Stmt->Prop}(h:yF e p=true)(k:∀a b c d e,p a b c d e=true->P (.For a b c d e)):P e:=
 let ⟨i,_⟩:=vI h;Stmt.For.elim (motive_2:=λe=>yF e p=true->P e) e i k h
def yW(e:Stmt)(p:Expr->List Stmt->List Stmt->Pos->Bool):Bool:=if h:e.ctorIdx=11 then Stmt.While.elim (motive_2:=λ_=>Bool) e h p else false
@[elab_as_elim] theorem Dv{e:Stmt}{p}{P:Stmt->Prop}(h:yW e p=true)(k:∀a b c d,p a b c d=true->P (.While a b c d)):P e:=
 let ⟨i,_⟩:=vI h;Stmt.While.elim (motive_2:=λe=>yW e p=true->P e) e i k h
def yI(e:Stmt)(p:Expr->List Stmt->List Stmt->Pos->Bool):Bool:=if h:e.ctorIdx=12 then Stmt.If.elim (motive_2:=λ_=>Bool) e h p else false
@[elab_as_elim] theorem Dw{e:Stmt}{p}{P:Stmt->Prop}(h:yI e p=true)(k:∀a b c d,p a b c d=true->P (.If a b c d)):P e:=
 let ⟨i,_⟩:=vI h;Stmt.If.elim (motive_2:=λe=>yI e p=true->P e) e i k h
def yZ(e:Stmt)(p:Option Expr->Option Expr->Pos->Bool):Bool:=if h:e.ctorIdx=16 then Stmt.Raise.elim (motive_2:=λ_=>Bool) e h p else false
@[elab_as_elim] theorem Dx{e:Stmt}{p}{P:Stmt->Prop}(h:yZ e p=true)(k:∀a b c,p a b c=true->P (.Raise a b c)):P e:=
 let ⟨i,_⟩:=vI h;Stmt.Raise.elim (motive_2:=λe=>yZ e p=true->P e) e i k h
def yT(e:Stmt)(p:List Stmt->List ExceptHandler->List Stmt->List Stmt->Pos->Bool):Bool:=if h:e.ctorIdx=17 then Stmt.Try.elim (motive_2:=λ_=>Bool) e h p else false
@[elab_as_elim] theorem Dy{e:Stmt}{p}{P:Stmt->Prop}(h:yT e p=true)(k:∀a b c d e,p a b c d e=true->P (.Try a b c d e)):P e:=
 let ⟨i,_⟩:=vI h;Stmt.Try.elim (motive_2:=λe=>yT e p=true->P e) e i k h
def yE(e:Stmt)(p:Expr->Pos->Bool):Bool:=if h:e.ctorIdx=24 then Stmt.Expr.elim (motive_2:=λ_=>Bool) e h p else false
@[elab_as_elim] theorem Dz{e:Stmt}{p}{P:Stmt->Prop}(h:yE e p=true)(k:∀a b,p a b=true->P (.Expr a b)):P e:=
 let ⟨i,_⟩:=vI h;Stmt.Expr.elim (motive_2:=λe=>yE e p=true->P e) e i k h
def kB(e:Const)(p:Bool->Bool):Bool:=if h:e.ctorIdx=1 then Const.bool.elim (motive:=λ_=>Bool) e h p else false
@[elab_as_elim] theorem DB{e:Const}{p}{P:Const->Prop}(h:kB e p=true)(k:∀a,p a=true->P (.bool a)):P e:=
 let ⟨i,_⟩:=vI h;Const.bool.elim (motive:=λe=>kB e p=true->P e) e i k h
def kI(e:Const)(p:Int->Bool):Bool:=if h:e.ctorIdx=2 then Const.int.elim (motive:=λ_=>Bool) e h p else false
@[elab_as_elim] theorem rK{e:Const}{p}{P:Const->Prop}(h:kI e p=true)(k:∀a,p a=true->P (.int a)):P e:=
 let ⟨i,_⟩:=vI h;Const.int.elim (motive:=λe=>kI e p=true->P e) e i k h
def kS(e:Const)(p:Str->Bool):Bool:=if h:e.ctorIdx=5 then Const.str.elim (motive:=λ_=>Bool) e h p else false
@[elab_as_elim] theorem rL{e:Const}{p}{P:Const->Prop}(h:kS e p=true)(k:∀a,p a=true->P (.str a)):P e:=
 let ⟨i,_⟩:=vI h;Const.str.elim (motive:=λe=>kS e p=true->P e) e i k h
def one{α:Type}(l:List α)(p:α->Bool):Bool:=match l with
 | [x]=>p x
 |_=>false
@[elab_as_elim] def bp{α:Type}{l:List α}{p}{P:List α->Prop}(h:one l p=true)(k:∀a,p a=true->P [a]):P l:=by
 induction l using List.casesOn with
 |nil=>show(aZ h).elim
 |cons a r=>induction r using List.casesOn with
  |nil=>show k a h
  |cons=>show(aZ h).elim
def two{α:Type}(l:List α)(p:α->α->Bool):Bool:=match l with
 |x::r=>one r (p x)
 |_=>false
@[elab_as_elim] def eZ{α:Type}{l:List α}{p}{P:List α->Prop}(h:two l p=true)(k:∀a b,p a b=true->P [a,b]):P l:=by
 induction l using List.casesOn with
 |nil=>show(aZ h).elim
 |cons a r=>show bp (P:=λr=>P (a::r)) h (k a)
def Sy{α:Type}(l:List α)(p:α->α->α->Bool):Bool:=match l with
 |x::r=>two r (p x)
 |_=>false
@[elab_as_elim] def Kg{α:Type}{l:List α}{p}{P:List α->Prop}(h:Sy l p=true)(k:∀a b c,p a b c=true->P [a,b,c]):P l:=by
 induction l using List.casesOn with
 |nil=>show(aZ h).elim
 |cons a r=>show eZ (P:=λr=>P (a::r)) h (k a)
@[elab_as_elim] def aC{α:Type}{l:List α}{P:List α->Prop}(h:l.isEmpty=true)(k:P []):P l:=by
 induction l using List.casesOn with
 |nil=>show k
 |cons=>show(aZ h).elim
@[elab_as_elim] def dM{α:Type}{l:Option α}{p}{P:Option α->Prop}(h:l.any p=true)(k:∀a,p a=true->P (some a)):P l:=by
 induction l using Option.casesOn with
 |none=>show(aZ h).elim
 |some a=>show k a h
@[elab_as_elim] def gG{α:Type}{l:Option α}{P:Option α->Prop}(h:l.isNone=true)(k:P none):P l:=by
 induction l using Option.casesOn with
 |none=>show k
 |some a=>show(aZ h).elim
theorem cH{a:Bool}{P:Prop}(h:(a && b)=true)(k:a=true->b=true->P):P:=k (mW.mp h).1 (mW.mp h).2
theorem dN{a c:Bool}{P:Prop}(h:(a && b && c)=true)(k:a=true->b=true->c=true->P):P:=cH h λh z=>cH h λx y=>k x y z
theorem rM{a c d:Bool}{P:Prop}(h:(a && b && c && d)=true)(k:a=true->b=true->c=true->d=true->P):P:=cH h λh z=>dN h λx y u=>k x y u z
theorem rN{a c d e:Bool}{P:Prop}(h:(a && b && c && d && e)=true)(k:a=true->b=true->c=true->d=true->e=true->P):P:=cH h λh z=>rM h λx y u v=>k x y u v z
theorem rO{a c d e f:Bool}{P:Prop}(h:(a && b && c && d && e && f)=true)(k:a=true->b=true->c=true->d=true->e=true->f=true->P):P:=cH h λh z=>rN h λx y u v w=>k x y u v w z
@[elab_as_elim] theorem fZ{α:Type} [BEq α] [LawfulBEq α]{a b:α}{P:α->Prop}(h:(a == b)=true)(k:P b):P a:=bq.mp h ▸ k
@[elab_as_elim] theorem DC{α:Type} [BEq α] [LawfulBEq α]{a b:α}{P:α->Prop}(h:(a == b)=true)(k:P a):P b:=bq.mp h ▸ k
def DE(o:UnaryOp):Bool:=Nat.beq o.ctorIdx 1
def isNeg(o:UnaryOp):Bool:=Nat.beq o.ctorIdx 3
def ju(o:BoolOp):Bool:=Nat.beq o.ctorIdx 0
@[elab_as_elim] def oC{o}{P:UnaryOp->Prop}(h:DE o=true)(k:P .Not):P o:=by
 induction o using UnaryOp.casesOn<;>first | show k | show(aZ h).elim
@[elab_as_elim] def gT{o}{P:UnaryOp->Prop}(h:isNeg o=true)(k:P .USub):P o:=by
 induction o using UnaryOp.casesOn<;>first | show k | show(aZ h).elim
@[elab_as_elim] def oE{o}{P:BoolOp->Prop}(h:ju o=true)(k:P .And):P o:=by
 induction o using BoolOp.casesOn<;>first | show k | show(aZ h).elim
@[elab_as_elim] def rP{o}{P:BoolOp->Prop}(h:(!ju o)=true)(k:P .Or):P o:=by
 induction o using BoolOp.casesOn<;>first | show k | show(aZ h).elim
def ns(k:Nat)(e:Expr):Bool:=!Nat.beq e.ctorIdx k
def nu(e:Expr):Bool:=!(xF e λf a k _=>xN f λg _=>a.isEmpty && k.isEmpty && g == ("super":Str))
@[elab_as_elim] theorem fe{x:Nat}{n:Str}{P:Str->Prop}(h:fW sc x n=true)(k:fW sc x (nm x)=true->P (nm x)):P n:=
 cH h λe _=>fZ (P:=λn=>fW sc x n=true->P n) e k h
@[elab_as_elim] def DF{c:Const}{P:Const->Prop}(h:Nat.beq c.ctorIdx 0=true)(k:P .none):P c:=by
 induction c using Const.casesOn<;>first | show k | show(aZ h).elim
def rQ(sc:Scope):List Nat->List Expr->Bool
 | [],l=>l.isEmpty
 |x::r,l=>match l with
  | []=>false
  |e::l=>(xN e λn _=>fW sc x n) && rQ sc r l
@[elab_as_elim] def dz{x:Nat}{l:List Nat}{P:List Expr->Prop}(h:rQ sc (x::l) es=true)(k:∀p r,fW sc x (nm x)=true->rQ sc l r=true->P (.Name (nm x) p::r)):P es:=by
 induction es using List.casesOn with
 |nil=>show(aZ h).elim
 |cons e r=>show cH h λa b=>bx (P:=λe=>P (e::r)) a λn p a=>fe (P:=λn=>P (.Name n p::r)) a λa=>k p r a b
def rR(sc:Scope)(t:List Nat)(e:Expr):Bool:=(xN e λn _=>one t λx=>fW sc x n) || xT e λl _ _=>Nat.blt 1 t.length && rQ sc t l
def uI:List Nat->List Arg->Bool
 | [],[]=>true
 |x::r,⟨n,none,_⟩::l=>n == nm x && uI r l
 |_,_=>false
def uJ(a:Arguments):Bool:=a.posonlyargs.isEmpty && a.vararg.isNone && a.kwonlyargs.isEmpty && a.kw_defaults.isEmpty && a.kwarg.isNone
def wH(sc:Scope):Bool:=decide (sc.kind=.function) && !sc.isGenerator && !sc.isCoroutine
def DG(sc inner:Scope)(t:List Nat):Bool:=wH inner && (inner.names.all λx=>gS (some x.2) ((x.1 == (".0":Str) || t.any λk=>nm k == x.1) && gS (inner.names.lookup x.1) true false false false) false (gS (sc.names.lookup x.1) false true true false && !(x.1 == ("__classdict__":Str))) true) && t.all λk=>gS (inner.names.lookup (nm k)) true false false false
def iZ(sc inner:Scope):Scope:={ inner with names:=inner.names.map λ(n,k)=>if k == .free && sc.kind == .function && sc.names.lookup n == some .cell then (n,.cell) else (n,k)}
def AK(l:List Expr)(p:List Expr->Arguments->Expr->Scope->Bool):Bool:=match l with
 | []=>false
 |e::r=>match r with
  | []=>xW e λar bo inner _=>p [] ar bo inner
  |_::_=>AK r λl=>p (e::l)
def wI(sc:Scope)(ai aq:List Nat)(ar:Arguments)(inner:Scope):Bool:=!aq.isEmpty && uJ ar && ar.defaults.isEmpty && uI ai ar.args && wH inner &&
   (inner.names.all λx=>gS (some x.2) (ai.any λk=>nm k == x.1) false ((aq.any λk=>nm k == x.1) && gS (sc.names.lookup x.1) false true false false && !(x.1 == ("__classdict__":Str))) true) && (aq.all λk=>gS (inner.names.lookup (nm k)) false false true false) && (ai.all λk=>gS (inner.names.lookup (nm k)) true false false false)
mutual
def ay(sc:Scope):E->Expr->Bool
 | .stop,_=>false
 | .cN,e=>xC e λc _ _=>Nat.beq c.ctorIdx 0
 | .cB b,e=>xC e λc _ _=>kB c λd=>b == d
 | .cI i,e=>(xC e λc _ _=>kI c λj=>decide (i=j)) || xU e λo x _=>isNeg o && xC x λc _ _=>kI c λj=>decide (i=-j)
 | .cS k,e=>xC e λc _ _=>kS c λx=>x == nm k
 | .v x,e=>xN e λn _=>fW sc x n
 | .glob a,e=>xN e λn _=>jT sc n a
 | .attr a k,e=>xA e λv n _=>ay sc a v && n == nm k && nu v
 | .ar o a b,e=>xB e λl p r _=>Dp p o && ay sc a l && ay sc b r
 | .not a,e=>xU e λo v _=>DE o && ay sc a v
 | .fG c a b,e=>xI e λt x y _=>ay sc c t && ay sc a x && ay sc b y
 | .and a b,e=>xO e λo l _=>two l λx y=>ju o && ay sc a x && ay sc b y
 | .or a b,e=>xO e λo l _=>two l λx y=>!ju o && ay sc a x && ay sc b y
 | .cmp o a b,e=>xM e λl ps rs _=>one ps λp=>one rs λr=>oA p o && ay sc a l && ay sc b r && ns 7 r
 | .gM o u a b c,e=>xM e λl ps rs _=>two ps λp q=>two rs λr t=>oA p o && oA q u && ay sc a l && ay sc b r && ay sc c t && ns 7 t
 | .list l,e=>xL e λes _=>bO sc l es
 | .tup l,e=>xT e λes _ _=>bO sc l es
 | .dH,e=>xD e λk v _=>k.isEmpty && v.isEmpty
 | .idx a i,e=>xS e λv s _=>ay sc a v && ay sc i s && ns 26 s
 | .gN a lo hi,e=>xS e λv s _=>xK s λl u t _=>ay sc a v && wJ sc lo l && wJ sc hi u && t.isNone
 | .jO a,e=>xS e λv s _=>xK s λl u t _=>t.any λt=>xU t λo c _=>xC c λc _ _=>kI c λj=>ay sc a v && l.isNone && u.isNone && isNeg o && decide (j=1)
 | .call f l,e=>xF e λg as ks _=>xN g λg _=>jT sc g (gF f) && bO sc l as && ks.isEmpty
 | .dI f l ai b aq,e=>xF e λg as ks _=>xN g λg _=>jT sc g (gF f) && ks.isEmpty && AK as λi ar bo inner=>bO sc l i && wI sc ai aq ar inner && ay inner b bo
 | .new c l,e=>xF e λg as ks _=>xN g λg _=>jT sc g (cD c) && bO sc l as && ks.isEmpty
 | .aJ a k l,e=>xF e λg as ks ps=>xA g λv n ap=>ay sc a v && n == nm k && bO sc l as && ks.isEmpty && (nu v && ap.endLine == ps.line) && Nat.blt as.length 20
 | .bi b l,e=>xF e λg as ks _=>xN g λg _=>jt sc g (wz b) && ks.isEmpty && bO sc l as
 | .lm m a l,e=>xF e λg as ks ps=>xA g λv n ap=>ay sc a v && n == Str.ofString (Dq m) && bO sc l as && ks.isEmpty && (nu v && ap.endLine == ps.line) && Nat.blt as.length 20
 | .items a,e=>xF e λg as ks _=>xN g λg _=>one as λc=>xF c λm bs js ps=>xA m λv n ap=>jt sc g "sorted" && ay sc a v && n == ("items":Str) && (ks.isEmpty && bs.isEmpty && js.isEmpty) && (nu v && ap.endLine == ps.line)
 | .isTrue a,e=>xM e λl ps rs _=>one ps λp=>one rs λr=>xF l λg as ks _=>xN g λg _=>one as λv=>xC r λc _ _=>kS c λx=>jt sc g "repr" && ay sc a v && x == ("True":Str) && ks.isEmpty && oA p .eq && ns 22 v
 | .ru a,e=>xF e λg as ks _=>xN g λg _=>two as λx q=>xN q λq _=>jt sc g "isinstance" && ks.isEmpty && jt sc q "bool" && ns 22 x && ay sc a x
 | .gy x l,e=>xF e λg as ks _=>xN g λg _=>fW sc x g && bO sc l as && ks.isEmpty
 | .comp a t src ifs,e=>xG e λv gs inner _=>one gs λg=>DG sc inner t && decide (g.is_async=0) && rR (iZ sc inner) t g.target && (ay sc src g.iter && ns 7 g.iter) && bO (iZ sc inner) ifs g.ifs && ay (iZ sc inner) a v
 | .jq l,e=>xF e λg as ks _=>xN g λg _=>jt sc g "range" && bO sc l as && ks.isEmpty
def bO(sc:Scope):List E->List Expr->Bool
 | [],l=>l.isEmpty
 |a::r,l=>match l with
  | []=>false
  |e::l=>ns 22 e && ay sc a e && bO sc r l
def wJ(sc:Scope):Option E->Option Expr->Bool
 |none,o=>o.isNone
 |some a,o=>o.any λe=>ay sc a e
end
@[elab_as_elim] def dA{a:E}{r:List E}{P:List Expr->Prop}(h:bO sc (a::r) es=true)(k:∀e l,ns 22 e=true->ay sc a e=true->bO sc r l=true->P (e::l)):P es:=by
 induction es using List.casesOn with
 |nil=>show(aZ h).elim
 |cons e l=>show dN h (k e l)
def pY{e:Expr}{l:List Expr}{env:PySem.Env}(h:ns 22 e=true):starEach (e::l) env=(false,eval e env)::starEach l env:=by
 induction e using Expr.casesOn<;>first | rfl | show(aZ h).elim
def uK(sc:Scope)(t:Tg)(e:Expr):Bool:=match t with
 | .v x=>xN e λn _=>fW sc x n && gS (sc.names.lookup n) true true false false
 | .attr a k=>xA e λv n _=>ay sc a v && n == nm k
 | .idx a i=>xS e λv s _=>ay sc a v && ay sc i s
 | .gN a lo hi=>xS e λv s _=>xK s λl u t _=>l.any λl=>u.any λu=>ay sc a v && ay sc lo l && ay sc hi u && t.isNone
def oF(sc:Scope):List Tg->List Expr->Bool
 | [],l=>l.isEmpty
 |t::r,l=>match l with
  | []=>false
  |e::l=>uK sc t e && oF sc r l
def wK{t:Tg}{e:Expr}(h:uK sc t e=true):ns 22 e=true/\ns 24 e=true/\ns 25 e=true:=by
 induction t using Tg.casesOn
 ·show bx h λ_ _ _=>⟨rfl,rfl,rfl⟩
 ·show fY h λ_ _ _ _=>⟨rfl,rfl,rfl⟩
 ·show iw h λ_ _ _ _=>⟨rfl,rfl,rfl⟩
 ·show iw h λ_ _ _ _=>⟨rfl,rfl,rfl⟩
def DH{e:Expr}{l:List Expr}{env:PySem.Env}(h:ns 22 e=true):assignEach (e::l) env=(false,assign e env)::assignEach l env:=by
 induction e using Expr.casesOn<;>first | rfl | show(aZ h).elim
@[elab_as_elim] def gU{t:Tg}{l:List Tg}{P:List Expr->Prop}(h:oF sc (t::l) es=true)(k:∀e r,uK sc t e=true->oF sc l r=true->P (e::r)):P es:=by
 induction es using List.casesOn with
 |nil=>show(aZ h).elim
 |cons e r=>show cH h (k e r)
def DI(e:Expr):Bool:=ns 8 e && ns 9 e && ns 10 e
def DJ(sc:Scope)(n:Str):Bool:=gS (sc.names.lookup n) true false false false
def Kh(sc:Scope)(t v:Expr):Bool:=DI v || xG v λ_ _ _ _=>(xN t λn _=>!DJ sc n) || xA t λ_ _ _=>true
def wL:List Expr->Bool
 | []=>true
 |e::r=>constantsAlone 8 e && wL r
def Sm.sp(a:Sm):Bool:=(by cases a with | stop=>show true | _=>show false)
def Sm.Sz{a:Sm}(h:a.sp=true):a=.stop:=by
 cases a with
 |stop=>show rfl
 |_=>show(aZ h).elim
def DK(a:Sm)(r:List Sm):Bool:=a.sp && r.isEmpty
def E.no(e:E):Bool:=(by cases e with | cN=>show true | _=>show false)
mutual
def AO(sc:Scope):Sm->Stmt->Bool
 | .stop,_=>true
 | .asg t e,z=>yA z λtg v _=>one tg λtg=>uK sc t tg && ay sc e v && Kh sc tg v
 | .gO ts e,z=>yA z λtg v _=>one tg λtg=>xT tg λes _ _=>oF sc ts es && ay sc e v && !(xT v λvs _ _=>wL vs)
 | .ex e,z=>yE z λv _=>ay sc e v && DI v
 | .iff c a b,z=>yI z λt x y _=>ay sc c t && jU sc a x && jU sc b y
 | .fH c b,z=>yW z λt x y _=>ay sc c t && jU sc b x && y.isEmpty
 | .aS t src b,z=>yF z λtg it x y _=>rR sc t tg && ay sc src it && jU sc b x && y.isEmpty && ns 7 it
 | .ret e,z=>yR z λv _=>match v with
  |some v=>ay sc e v
  |none=>e.no
 | .raise k e,z=>yZ z λa b _=>a.any λa=>xF a λg as ks _=>xN g λg _=>two as λx d=>xC x λc _ _=>kS c λx=>jT sc g (cD 0) && x == nm k && ay sc e d && ns 22 d && ks.isEmpty && b.isNone
 | .jP b x,z=>yT z λbo hs el fi _=>one hs fun
  | .ExceptHandler ty nn bd _=>ty.any λt=>xN t λg _=>nn.any λn=>one bd λr=>yR r λv _=>v.any λv=>xA v λo q _=>xN o λn' _=>jU sc b bo && jT sc g (cD 0) && fW sc x n && n' == n && DJ sc n && (q == ("symbol":Str) && el.isEmpty && fi.isEmpty)
def jU(sc:Scope):List Sm->List Stmt->Bool
 | [],l=>l.isEmpty
 |a::r,l=>match l with
  | []=>DK a r
  |s::l=>DK a r || AO sc a s && jU sc r l
end
@[elab_as_elim] def DN{e:E}{P:E->Prop}(h:e.no=true)(k:P .cN):P e:=by
 cases e with
 |cN=>show k
 |_=>show(aZ h).elim
theorem Ki{a:Sm}{r:List Sm}(h:DK a r=true):a=.stop/\r=[]:=
 cH h λh i=>aC i ⟨Sm.Sz h,rfl⟩
def AP(r:FR)(f:Fd):Bool:=uJ (kF r.st) && uI f.ai (kF r.st).args && Nat.beq (kF r.st).defaults.length f.gA.length && wH (cg r.st) &&
 (f.ai.all λk=>gS ((cg r.st).names.lookup (nm k)) true true false false) &&
 ((cg r.st).names.all λx=>gS (some x.2) true true false true) && jU (cg r.st) f.body (mU r.st)
def AQ:List FR->List Fd->Bool
 | [],[]=>true
 |r::l,f::k=>AP r f && AQ l k
 |_,_=>false
def DP:AQ fT fns=true:=by kernel_rfl
end
end Tactic
namespace Tactic
open PySem PySem.W PySem.Calls PyProof.Rows PySem.Spec Lh.Tactic
noncomputable section
variable{v:Value}{i:Int}{vs:List Value}{xs l:List V}{es:List DictEntry}{fs:List (Nat×V)}{ps:List (Int×Value)}{b:Obj}{own:Nat->Prop}{o:Option O}
def SD:((List.range 125).all λi=>(List.range 125).all λj=>Nat.beq i j || !(Str.ofString (gR.getD i "") == Str.ofString (gR.getD j "")))=true:=by decide +kernel
def SG:(gR.all λx=>Nat.blt (Str.ofString x).cps.size 125)=true:=by decide +kernel
def uL:gR.length=125:=by decide +kernel
def uM{k:Nat}(h:k<125):nm k=Str.ofString (gR.getD k ""):=by
 have hk:k<gR.length:=by rw[uL];show h
 unfold nm;rw[bL hk,oq,bL hk];rfl
def uN{k:Nat}(h:125<=k):nm k=⟨(List.replicate k 97).toArray⟩:=by
 unfold nm;rw[iV (by rw[uL];show h)]
def Kj{a b:Nat}(ha:a<125)(hb:125<=b):nm a≠nm b:=by
 intro e;have hk:a<gR.length:=by rw[uL];show ha
 have h1:=bR.mp SG gR[a] (List.getElem_mem hk)
 rewrite [uM ha,uN hb,oq,bL hk] at e
 have e':Str.ofString gR[a]=⟨(List.replicate b 97).toArray⟩:=e
 rewrite [e'] at h1
 simp[Nat.blt] at h1;show⟨"_,125.A,A.124;0,1,1",hb,h1⟩
def rT{a b:Nat}(e:nm a=nm b):a=b:=by
 rcases iX a 125 with ha | ha<;>rcases iX b 125 with hb | hb
 ·have h1:=bR.mp (bR.mp SD a (List.mem_range.mpr ha)) b (List.mem_range.mpr hb)
  rewrite [<-uM ha,<-uM hb,e] at h1
  simp at h1;show h1
 ·show absurd e (Kj ha hb)
 ·show absurd e.symm (Kj hb ha)
 ·rewrite [uN ha,uN hb] at e
  have:=congrArg (λx:Str=>x.cps.size) e
  simpa using this
inductive VR:Value->V->Prop
 |none:VR .none .none
 |bool (b:Bool):VR (.bool b) (.bool b)
 |int (i:Int) (t:Tok):VR (.int i t) (.int i)
 |str (k:Nat) (t:Tok):VR (.str (nm k) t) (.str k)
 |ref (a:Nat):VR (.ref a) (.ref a)
class inductive aF:List Value->List V->Prop
 |nil:aF [] []
 |cons {v:Value}{x:V}{vs:List Value}{xs:List V}:VR v x->aF vs xs->aF (v::vs) (x::xs)
def VR.wM(h:VR v (.int i)):∃t,v=.int i t:=by cases h;show⟨_,rfl⟩
def VR.SJ{k:Nat}(h:VR v (.str k)):∃t,v=.str (nm k) t:=by cases h;show⟨_,rfl⟩
def VR.oG{a:Nat}(h:VR v (.ref a)):v=.ref a:=by cases h;rfl
def VR.DQ{b:Bool}(h:VR v (.bool b)):v=.bool b:=by cases h;rfl
def VR.uO(h:VR v .none):v=.none:=by cases h;rfl
def aF.Kk(h:aF vs []):vs=[]:=by cases h;rfl
def aF.wN{x:V}(h:aF vs (x::xs)):∃v r,vs=v::r/\VR v x/\aF r xs:=by cases h with | cons a b=>show⟨_,_,rfl,a,b⟩
def SK{α:Type}{l:List α}(h:l.length=1):∃a,l=[a]:=by
 cases l with
 |nil=>cases h
 |cons a l=>show⟨a,by rw[lA.mp (Nat.succ.inj h)]⟩
def wQ{α:Type}{l:List α}(h:l.length=2):∃a b,l=[a,b]:=by
 cases l with
 |nil=>cases h
 |cons a l=>obtain⟨b,e⟩:=SK (Nat.succ.inj h);show⟨a,b,by rw[e]⟩
def AR{α:Type}{l:List α}(h:l.length=3):∃a b c,l=[a,b,c]:=by
 cases l with
 |nil=>cases h
 |cons a l=>obtain⟨b,c,e⟩:=wQ (Nat.succ.inj h);show⟨a,b,c,by rw[e]⟩
def VR.fh{x:V}(h:VR v x):∀p b c,x≠.bA p b c:=by cases h<;>intro _ _ _ e<;>cases e
def aF.len(h:aF vs xs):vs.length=xs.length:=by
 induction h with
 |nil=>rfl
 |cons _ _ ih=>simp[ih]
def aF.get(h:aF vs xs):∀{i:Nat}{x:V},xs[i]?=some x->∃v,vs[i]?=some v/\VR v x:=by
 induction h with
 |nil=>intro i x e;simp at e
 |cons h _ ih=>intro i x e;cases i with
  |zero=>simp at e;subst e;show⟨_,rfl,h⟩
  |succ i=>simp at e;obtain⟨v,e1,e2⟩:=ih e;show⟨v,by simpa using e1,e2⟩
def aF.app{ws:List Value}{ys:List V}(h:aF vs xs)(k:aF ws ys):aF (vs++ws) (xs++ys):=by
 induction h with
 |nil=>show k
 |cons h _ ih=>show .cons h ih
def aF.take(h:aF vs xs):∀n,aF (vs.take n) (xs.take n):=by
 induction h with
 |nil=>intro n;simp;show .nil
 |cons h _ ih=>intro n;cases n with
  |zero=>show .nil
  |succ n=>show .cons h (ih n)
def aF.drop(h:aF vs xs):∀n,aF (vs.drop n) (xs.drop n):=by
 induction h with
 |nil=>intro n;simp;show .nil
 |cons h t ih=>intro n;cases n with
  |zero=>show .cons h t
  |succ n=>show ih n
def aF.rev(h:aF vs xs):aF vs.reverse xs.reverse:=by
 induction h with
 |nil=>show .nil
 |cons h _ ih=>rw[List.reverse_cons,List.reverse_cons];show ih.app (.cons h .nil)
def aF.set(h:aF vs xs){x:V}(hv:VR v x):∀n,aF (vs.set n v) (xs.set n x):=by
 induction h with
 |nil=>intro n;show .nil
 |cons h t ih=>intro n;cases n with
  |zero=>show .cons hv t
  |succ n=>show .cons h (ih n)
def aF.snoc_inv{x:V}(h:aF vs (xs++[x])):∃ws v,vs=ws++[v]/\aF ws xs/\VR v x:=by
 induction xs generalizing vs with
 |nil=>cases h with | cons h t=>cases t;show⟨[],_,rfl,.nil,h⟩
 |cons y ys ih=>cases h with | cons h t=>obtain⟨ws,v,rfl,h1,h2⟩:=ih t;show⟨_::ws,v,rfl,.cons h h1,h2⟩
class inductive Fl:List DictEntry->List (Nat×V)->Prop
 |nil:Fl [] []
 |cons {e:DictEntry}{k:Nat}{t:Tok}{x:V}{es:List DictEntry}{fs:List (Nat×V)}:e.key=.str (nm k) t->VR e.val x->Fl es fs->Fl (e::es) ((k,x)::fs)
def Kl{k j:Nat}{t:Tok}:(Value.str (nm k) t).isStr (nm j)=Nat.beq k j:=by
 show(nm k == nm j)=_;cases h:Nat.beq k j with
 |true=>rw[nq h];simp
 |false=>simp only[mX];intro e;rewrite [rT e] at h;simp at h
def Fl.len(h:Fl es fs):es.length=fs.length:=by
 induction h with
 |nil=>rfl
 |cons _ _ _ ih=>simp[ih]
def Fl.noRef(h:Fl es fs):es.any (·.refKey)=false:=by
 induction h with
 |nil=>rfl
 |cons e _ _ ih=>
  rw[List.any_cons,ih,Bool.or_false];unfold DictEntry.refKey;rw[e]
def Fl.get(h:Fl es fs)(k:Nat):(∃v x,getL (nm k) es=some (some v)/\lk fs k=some x/\VR v x)\/(getL (nm k) es=some none/\lk fs k=none):=by
 induction h with
 |nil=>show .inr ⟨rfl,rfl⟩
 |cons e hv t ih=>
  rename_i en j tk x es fs;have hb:en.key.isStr (nm k)=Nat.beq j k:=by rw[e];show Kl
  cases hj:Nat.beq j k with
  |true=>
   exact .inl ⟨en.val,x,?_,?_,hv⟩
   ·unfold getL;rw[List.find?_cons,hb,hj]
   ·show(match Nat.beq j k with | true=>some x | false=>lk fs k)=some x;rw[hj]
  |false=>
   have h1:getL (nm k) (en::es)=getL (nm k) es:=by
    unfold getL;rw[List.find?_cons,hb,hj];have:en.refKey=false:=by unfold DictEntry.refKey;rw[e]
    rw[List.any_cons,this,Bool.false_or]
   have h2:lk ((j,x)::fs) k=lk fs k:=by show(match Nat.beq j k with | true=>some x | false=>lk fs k)=_;rw[hj]
   rw[h1,h2];show ih
def Fl.put(h:Fl es fs){k:Nat}{hs:Int}{t:Tok}{x:V}(hv:VR v x):Fl (putL (nm k) hs (.str (nm k) t) v es) (up fs k x):=by
 induction h with
 |nil=>show .cons rfl hv .nil
 |cons e jv tl ih=>
  rename_i en j tk y es fs;have hb:en.key.isStr (nm k)=Nat.beq j k:=by rw[e];show Kl
  show Fl (if en.key.isStr (nm k) then _ else _) (match Nat.beq j k with | true=>(j,x)::fs | false=>(j,y)::up fs k x)
  rw[hb];cases hj:Nat.beq j k with
  |true=>show .cons e hv tl
  |false=>show .cons e jv ih
class inductive Kv:List (Int×Value)->List (Int×V)->Prop
 |nil:Kv [] []
 |cons {i:Int}{v:Value}{x:V}{ps:List (Int×Value)}{es:List (Int×V)}:VR v x->Kv ps es->Kv ((i,v)::ps) ((i,x)::es)
def Kv.len{es:List (Int×V)}(h:Kv ps es):ps.length=es.length:=by
 induction h with
 |nil=>rfl
 |cons _ _ ih=>simp[ih]
def Kv.keys{es:List (Int×V)}(h:Kv ps es):ps.map (·.1)=es.map (·.1):=by
 induction h with
 |nil=>rfl
 |cons _ _ ih=>simp[ih]
def Kv.at{es:List (Int×V)}(h:Kv ps es){x:V}(e:cq es i=some x):∃v,PySem.valueAt ps i=some v/\VR v x:=by
 induction h with
 |nil=>cases e
 |cons hv tl ih=>
  rename_i j v y ps es;dsimp only[cq] at e;unfold PySem.valueAt;by_cases hj:j=i
  ·nomatch if_pos hj,e;show⟨v,by simp[List.find?_cons,hj],hv⟩
  ·rewrite [if_neg hj] at e
   obtain⟨v',e1,e2⟩:=ih e;show⟨v',by rw[List.find?_cons];simp only[hj,decide_false];show e1,e2⟩
def Kv.put{es:List (Int×V)}(h:Kv ps es)(nd:(ps.map (·.1)).Nodup){k:Int}{x:V}(hv:VR v x):Kv (stored ps k v) (dup es k x):=by
 induction h with
 |nil=>show .cons hv .nil
 |cons jv t ih=>
  rename_i j w y ps es
  rewrite [dU,bS] at nd
  dsimp only[dup];by_cases hj:j=k
  ·subst hj;rw[if_pos rfl];unfold stored;have h1:(((j,w)::ps).any λkv=>decide (kv.1=j))=true:=by simp
   rw[if_pos h1,dU,if_pos rfl];have h2:ps.map (λkv=>if kv.1=j then (kv.1,v) else kv)=ps:=by
    conv=>rhs;rw[<-List.map_id ps]
    exact List.map_congr_left λp hp=>?_;have:p.1≠j:=λe=>nd.1 (bJ.mpr ⟨p,hp,e⟩);simp[this]
   rw[h2];show .cons hv t
  ·rw[if_neg hj];have wR:=ih nd.2;unfold stored at wR ⊢;have h1:(((j,w)::ps).any λkv=>decide (kv.1=k))=(ps.any λkv=>decide (kv.1=k)):=by simp[hj]
   rw[h1];split
   ·rename_i hh
    rewrite [if_pos hh] at wR
    rw[dU,if_neg hj];show .cons jv wR
   ·rename_i hh
    rewrite [if_neg hh] at wR
    show .cons jv wR
section
variable(J:Program)(w:World)(bz:Heap)
abbrev cR(vs:List Value)(n:Nat):Obj:={ cls:=.type "list",data:=.seq vs.toArray n}
abbrev uP(c d:Nat)(sl:Array (Option Value)):Obj:=⟨.ref (cD c),some d,.plain,sl⟩
inductive OR(h:Heap)(a:Nat):O->Prop
 |inst {c d:Nat}{es:List DictEntry}{n:Nat}{sl:Array (Option Value)}{fs:List (Nat×V)}:h.get? a=some (uP c d sl)->h.get? d=some (dictOf es n)->Fl es fs->OR h a (.inst c fs)
 |lst {vs:List Value}{n:Nat}{xs:List V}:h.get? a=some (cR vs n)->aF vs xs->xs.length<=200000->OR h a (.lst xs)
 |cO {vs:List Value}{xs:List V}:h.IsList a vs.toArray->aF vs xs->xs.length<=200000->OR h a (.cO xs)
 |tup {vs:List Value}{xs:List V}:IsTup h a vs.toArray->aF vs xs->xs.length<=200000->OR h a (.tup xs)
 |aP {ps:List (Int×Value)}{es:List (Int×V)}{ep:Nat}:h.DictAt (intKind J w) a ps ep->Kv ps es->OR h a (.aP es ep)
def O.mut:O->Bool
 | .inst _ _=>true
 | .lst _=>true
 | .aP _ _=>true
 |_=>false
def bj(Y:So)(h:Heap)(a d:Nat):Prop:=∃c fs ox,Y a=some (.inst c fs)/\h.get? a=some ox/\ox.dict=some d
def tabs:List (Nat×Nat×String):=(fT.zip tP).map λp=>(p.1.cd,p.2,p.1.ql)
def wU(q:String):Str:=Str.ofString q++".<locals>."++"<lambda>"
def wV(b:Nat):Prop:=∃t∈tabs,b=t.2.1
def lD(h:Heap)(P:Nat)(q:String):Prop:=∃ps:Array Value,h.get? P=some (tabObj ps)/\TriplesOk ps.toList/\∀pos cv,codeAmong pos ps.toList=some cv->h.CodeRec cv (wU q)
def aD(Y:So)(h:Heap)(b:Nat):Prop:=(∃o,Y b=some o/\o.mut=true)\/(∃a,bj Y h a b)\/wV b
def pZ(o:Obj):Prop:=∃vs q t,o.data=.fields vs/\vs[1]?=some (.str q t)
structure Inv(Y:So)(h:Heap):Prop where
 stays:bz.StaysIn h
 rep:∀a o,Y a=some o->OR J w h a o
 old:∀b o,bz.get? b=some o->¬ aD Y h b
 sep:∀a d,bj Y h a d->Y d=none
 inj:∀a b d,bj Y h a d->bj Y h b d->a=b
 tab:∀t∈tabs,lD h t.2.1 t.2.2
def Up(o o':Obj):Prop:=o'=o\/((∃es ep,o.data=.dict es ep)/\∃sl,o'={ o with slots:=sl})
def Up.trans{a c:Obj}(x:Up a b)(y:Up b c):Up a c:=by
 rcases x with rfl | ⟨hd,sl,rfl⟩
 ·show y
 ·rcases y with rfl | ⟨_,Km,rfl⟩
  ·show .inr ⟨hd,sl,rfl⟩
  ·show .inr ⟨hd,Km,rfl⟩
def Up.cls{a:Obj}(x:Up a b):b.cls=a.cls:=by rcases x with rfl | ⟨_,_,rfl⟩<;>rfl
def Up.data{a:Obj}(x:Up a b):b.data=a.data:=by rcases x with rfl | ⟨_,_,rfl⟩<;>rfl
def Up.show{a:Obj}(x:Up a b)(n:∀es ep,a.data≠.dict es ep):b=a:=by
 rcases x with e | ⟨⟨es,ep,hd⟩,_⟩
 ·show e
 ·show absurd hd (n es ep)
structure Step(own:Nat->Prop)(Y Y':So)(h h':Heap):Prop where
 kp:∀b o,h.get? b=some o->∃o',h'.get? b=some o'
 st:∀b o,h.get? b=some o->¬ aD Y h b->∃o',h'.get? b=some o'/\¬ aD Y' h' b/\(own b\/Up o o')
 nw:∀b o,h.get? b=some o->Y b=none->Y' b=none
def nil:Nat->Prop:=λ_=>False
theorem Step.refl{Y:So}{h:Heap}:Step own Y Y h h:=⟨λb o e=>⟨o,e⟩,λb o e n=>⟨o,e,n,.inr (.inl rfl)⟩,λb o e n=>n⟩
theorem Step.trans{Y1 Ym Y3:So}{h1 hm h3:Heap}(x:Step own Y1 Ym h1 hm)(y:Step own Ym Y3 hm h3):Step own Y1 Y3 h1 h3:=⟨λb o e=>let ⟨o',e'⟩:=x.kp b o e;y.kp b o' e',λb o e n=>by
 obtain⟨o2,e2,n2,u2⟩:=x.st b o e n;obtain⟨o3,e3,n3,u3⟩:=y.st b o2 e2 n2;exact⟨o3,e3,n3,?_⟩;rcases u2 with u | u
 ·show .inl u
 ·rcases u3 with v | v
  ·show .inl v
  ·show .inr (u.trans v),λb o e n=>let ⟨o',e'⟩:=x.kp b o e;y.nw b o' e' (x.nw b o e n)⟩
theorem Step.mono{lE:Nat->Prop}{Y Y':So}{h h':Heap}(x:Step own Y Y' h h')(k:∀b o,h.get? b=some o->own b->lE b):Step lE Y Y' h h':=⟨x.kp,λb o e n=>by
 obtain⟨o',e',n',u⟩:=x.st b o e n;show⟨o',e',n',u.imp (k b o e) id⟩,x.nw⟩
def aF.two{j:Int}(h:aF vs [.int i,.int j]):∃t u,vs=[.int i t,.int j u]:=by
 obtain _ | ⟨q1,_ | ⟨q2,_ | _⟩⟩:=h;obtain⟨t,rfl⟩:=q1.wM;obtain⟨u,rfl⟩:=q2.wM;show⟨t,u,rfl⟩
def At(own:Nat->Prop)(Y0:So)(s0:Shared)(Y:So)(s:Shared):Prop:=(∃h tk,s={ s0 with heap:=h,toks:=tk})/\Inv J w bz Y s.heap/\Step own Y0 Y s0.heap s.heap
end
@[elab_as_elim] def az{x:V}{p:Int->Prop}{P:V->Value->Prop}(h:bN x p)(hv:VR v x)(k:∀i t,p i->P (.int i) (.int i t)):P x v:=by
 cases hv<;>first | show k _ _ h | show h.elim
@[elab_as_elim] def aM{x:V}{p:Nat->Prop}{P:V->Value->Prop}(h:cQ x p)(hv:VR v x)(k:∀a,p a->P (.ref a) (.ref a)):P x v:=by
 cases hv<;>first | show k _ h | show h.elim
@[elab_as_elim] def p6{x:V}{p:Prop}{q:Int->Prop}{P:V->Value->Prop}(h:C3 x p q)(hv:VR v x)(k:p->P .none .none)(l:∀i t,q i->P (.int i) (.int i t)):P x v:=by
 cases hv<;>first | show k h | show l _ _ h | show h.elim
def kU{p:List V->Prop}(h:iq o p):∃xs,o=some (.lst xs)/\p xs:=by
 induction o using Option.casesOn
 ·show h.elim
 ·rename_i o;induction o using O.casesOn<;>first | show⟨_,rfl,h⟩ | show h.elim
def AU{p:List V->Prop}(h:mY o p):∃xs,o=some (.tup xs)/\p xs:=by
 induction o using Option.casesOn
 ·show h.elim
 ·rename_i o;induction o using O.casesOn<;>first | show⟨_,rfl,h⟩ | show h.elim
def DR{p:Nat->List (Nat×V)->Prop}(h:wi o p):∃c fs,o=some (.inst c fs)/\p c fs:=by
 induction o using Option.casesOn
 ·show h.elim
 ·rename_i o;induction o using O.casesOn<;>first | show⟨_,_,rfl,h⟩ | show h.elim
def SM{p:List (Int×V)->Nat->Prop}(h:C5 o p):∃es ep,o=some (.aP es ep)/\p es ep:=by
 induction o using Option.casesOn
 ·show h.elim
 ·rename_i o;induction o using O.casesOn<;>first | show⟨_,_,rfl,h⟩ | show h.elim
def AV{p:List (Int×V)->Nat->Prop}{q:List V->Prop}(h:aet o p q):(∃es ep,o=some (.aP es ep)/\p es ep)\/∃xs,o=some (.lst xs)/\q xs:=by
 induction o using Option.casesOn
 ·show h.elim
 ·rename_i o;induction o using O.casesOn<;>first | show .inl ⟨_,_,rfl,h⟩ | show .inr ⟨_,rfl,h⟩ | show h.elim
def SN{p q:List V->Prop}{r:List (Int×V)->Prop}(h:wj o p q r):(∃xs,o=some (.lst xs)/\p xs)\/(∃xs,o=some (.tup xs)/\q xs)\/∃es ep,o=some (.aP es ep)/\r es:=by
 induction o using Option.casesOn
 ·show h.elim
 ·rename_i o;induction o using O.casesOn<;>first | show .inl ⟨_,rfl,h⟩ | show .inr (.inl ⟨_,rfl,h⟩) | show .inr (.inr ⟨_,_,rfl,h⟩) | show h.elim
def Kn{p:List V->Prop}(h:ou o p):∃xs,(o=some (.lst xs)\/o=some (.tup xs)\/o=some (.cO xs))/\p xs:=by
 induction o using Option.casesOn
 ·show h.elim
 ·rename_i o;induction o using O.casesOn<;>first | show⟨_,.inl rfl,h⟩ | show⟨_,.inr (.inl rfl),h⟩ | show⟨_,.inr (.inr rfl),h⟩ | show h.elim
def SQ{p:List V->Prop}(h:AF o p):∃xs,(o=some (.lst xs)\/o=some (.tup xs))/\p xs:=by
 induction o using Option.casesOn
 ·show h.elim
 ·rename_i o;induction o using O.casesOn<;>first | show⟨_,.inl rfl,h⟩ | show⟨_,.inr rfl,h⟩ | show h.elim
def nz{α:Type}{o:Option α}{p:α->Prop}(h:jr o p):∃x,o=some x/\p x:=by
 induction o using Option.casesOn
 ·show h.elim
 ·show⟨_,rfl,h⟩
def SR{o:Option V}{p:Prop}(h:IY o p):o=none/\p:=by
 induction o using Option.casesOn
 ·show⟨rfl,h⟩
 ·show h.elim
def SV{o:Option V}{p:List Nat->E->List (Nat×V)->Prop}(h:IZ o p):∃a b c,o=some (.bA a b c)/\p a b c:=by
 induction o using Option.casesOn
 ·show h.elim
 ·rename_i o;induction o using V.casesOn<;>first | show⟨_,_,_,rfl,h⟩ | show h.elim
def p8{b:Bool}{p:Prop}(h:mZ b p):b=true/\p:=by
 induction b using Bool.casesOn
 ·show h.elim
 ·show⟨rfl,h⟩
def SW{α:Type}{l:List α}{p:Prop}(h:I0 l p):l=[]/\p:=by
 induction l using List.casesOn
 ·show⟨rfl,h⟩
 ·show h.elim
@[elab_as_elim] def p9{p:Prop}{P:List V->List Value->Prop}(h:C4 l p)(r:aF vs l)(k:p->P [] []):P l vs:=by
 cases r with
 |nil=>show k h
 |cons _ _=>show h.elim
@[elab_as_elim] def cU{p:V->Prop}{P:List V->List Value->Prop}(h:dh l p)(r:aF vs l)(k:∀x v,VR v x->p x->P [x] [v]):P l vs:=by
 cases r with
 |nil=>show h.elim
 |cons a r=>cases r with
  |nil=>show k _ _ a h
  |cons _ _=>show h.elim
@[elab_as_elim] def qa{p:V->V->Prop}{P:List V->List Value->Prop}(h:fV l p)(r:aF vs l)(k:∀x v y u,VR v x->VR u y->p x y->P [x,y] [v,u]):P l vs:=by
 cases r with
 |nil=>show h.elim
 |cons a r=>show cU (P:=λl vs=>P (_::l) (_::vs)) h r λy u b h=>k _ _ y u a b h
def SX{t:List Nat}{v:V}{m:Env}{K:Env->Prop}{s:So}(h:fJ t v m K s):(∃x,t=[x]/\K (up m x v))\/(cQ v λa=>mY (s a) λxs=>xs.length=t.length/\K ((t.zip xs).foldl (λm p=>up m p.1 p.2) m)):=by
 induction t using List.casesOn
 ·show .inr h
 ·rename_i x t;induction t using List.casesOn
  ·show .inl ⟨x,rfl,h⟩
  ·show .inr h
def SY{v:V}{p q:Nat->Prop}(h:cQ v p)(k:∀a,v=.ref a->p a->q a):cQ v q:=by
 induction v using V.casesOn<;>first | show h.elim | show k _ rfl h
def S1{p q:List V->Prop}(h:mY o p)(k:∀xs,o=some (.tup xs)->p xs->q xs):mY o q:=by
 obtain⟨xs,rfl,h⟩:=AU h;show k _ rfl h
def DS{t:List Nat}{v:V}{m m':Env}{K K':Env->Prop}{s:So}(h:fJ t v m K s)(k1:∀x,t=[x]->K (up m x v)->K' (up m' x v))(k2:∀a xs,v=.ref a->s a=some (.tup xs)->xs.length=t.length->K ((t.zip xs).foldl (λm p=>up m p.1 p.2) m)->K' ((t.zip xs).foldl (λm p=>up m p.1 p.2) m')):fJ t v m' K' s:=by
 have r:=λh:cQ v λa=>mY (s a) λxs=>xs.length=t.length/\K ((t.zip xs).foldl (λm p=>up m p.1 p.2) m)=>SY (q:=λa=>mY (s a) λxs=>xs.length=t.length/\K' ((t.zip xs).foldl (λm p=>up m p.1 p.2) m')) h λa e h=>S1 h λxs e' h=>⟨h.1,k2 a xs e e' h.1 h.2⟩;clear k2;induction t using List.casesOn
 ·show r h
 ·rename_i x t;induction t using List.casesOn
  ·show k1 x rfl h
  ·show r h
end
end Tactic
namespace Tactic
open PySem PySem.W PySem.Calls PyProof.Rows PySem.Spec Lh.Tactic
noncomputable section
variable{J:Program}{w:World}{bz:Heap}
set_option tactic.hygienic false
variable{Y Y0:So}{o:O}{b tk:Nat}{h h':Heap}{own:Nat->Prop}{s:Shared}
def AW{a:Nat}:put Y a o a=some o:=by show(match Nat.beq a a with | true=>some o | false=>Y a)=_;rw[Nat.beq_refl]
def dO{a:Nat}(h:b≠a):put Y a o b=Y b:=by
 show(match Nat.beq b a with | true=>some o | false=>Y b)=_
 cases e:Nat.beq b a with
 |true=>show absurd (nq e) h
 |false=>rfl
def hO{a:Nat}{o':O}(h:put Y a o b=some o'):(b=a/\o'=o)\/(b≠a/\Y b=some o'):=by
 by_cases e:b=a
 ·subst e;nomatch AW,h;show .inl ⟨rfl,rfl⟩
 ·rewrite [dO e] at h;show .inr ⟨e,h⟩
theorem DT{a:Nat}{ps:List (Int×Value)}(x:h.DictOf (intKind J w) a ps)(e:∀o,h.get? a=some o->h'.get? a=some o):h'.DictOf (intKind J w) a ps:=
 by obtain⟨o,es,ep,ho,r⟩:=x;show⟨o,es,ep,e _ ho,r⟩
def OR.here{a:Nat}(x:OR J w h a o):∃ob,h.get? a=some ob:=by
 cases x with
 |inst e _ _=>show⟨_,e⟩
 |lst e _ _=>show⟨_,e⟩
 |cO e _ _=>obtain⟨o,e,_⟩:=e;show⟨o,e⟩
 |tup e _ _=>obtain⟨o,e,_⟩:=e;show⟨o,e⟩
 |aP e _=>obtain⟨o,_,e,_⟩:=e;show⟨o,e⟩
def OR.keeps{a:Nat}(x:OR J w h a o)(k:∀ob,h.get? a=some ob->h'.get? a=some ob)(kd:∀ob d od,h.get? a=some ob->ob.dict=some d->h.get? d=some od->(∃c fs,o=.inst c fs)->h'.get? d=some od):OR J w h' a o:=by
 cases x with
 |inst e ed f=>show .inst (k _ e) (kd _ _ _ e rfl ed ⟨_,_,rfl⟩) f
 |lst e v b=>show .lst (k _ e) v b
 |cO e v b=>obtain⟨o,e,r⟩:=e;show .cO ⟨o,k _ e,r⟩ v b
 |tup e v b=>obtain⟨o,e,r⟩:=e;show .tup ⟨o,k _ e,r⟩ v b
 |aP e v=>show .aP (let ⟨o,es,ho,r⟩:=e;⟨o,es,k _ ho,r⟩) v
def Inv.unset(I:Inv J w bz Y h){c:Nat}(hc:h.get? c=none):Y c=none:=by
 cases e:Y c with
 |none=>rfl
 |some o=>obtain⟨ob,e'⟩:=(I.rep c o e).here;nomatch hc,e'
def Inv.dat(I:Inv J w bz Y h){a d:Nat}(x:bj Y h a d):∃od,h.get? d=some od:=by
 obtain⟨c,fs,ox,e,hx,hd⟩:=x;cases I.rep a _ e with
 |inst e' ed f=>nomatch hx,e';cases hd;show⟨_,ed⟩
def tab_keep{P:Nat}{q:String}(x:lD h P q)(e:h'.get? P=h.get? P)(k:∀b o,h.get? b=some o->pZ o->h'.get? b=some o):lD h' P q:=by
 obtain⟨ps,e1,e2,e3⟩:=x;exact⟨ps,e.trans e1,e2,λpos cv e=>?_⟩;obtain⟨c,o,vs,t,e4,e5,e6,e7⟩:=e3 pos cv e;show⟨c,o,vs,t,e4,k c o e5 ⟨vs,_,t,e6,e7⟩,e6,e7⟩
def Inv.wW(I:Inv J w bz Y h){a:Nat}(e:Y a=some o):¬ wV a:=by
 rintro⟨t,ht,rfl⟩;obtain⟨ps,e1,_⟩:=I.tab t ht;cases I.rep _ _ e with
 |inst e' _ _=>nomatch e1,e'
 |lst e' _ _=>nomatch e1,e'
 |cO e' _ _=>obtain⟨o,e',h2,n,h3⟩:=e';nomatch e1,e';cases h3
 |tup e' _ _=>obtain⟨o,e',h2,n,h3⟩:=e';nomatch e1,e';cases h3
 |aP e' _=>obtain⟨o,es,e',_,h3,_⟩:=e';nomatch e1,e';cases h3
def Inv.AX(I:Inv J w bz Y h){a d:Nat}(x:bj Y h a d):∃es n,h.get? d=some (dictOf es n):=by
 obtain⟨c,fs,ox,e,hx,hd⟩:=x;cases I.rep a _ e with
 |inst e' ed f=>nomatch hx,e';cases hd;show⟨_,_,ed⟩
def Inv.Ko(I:Inv J w bz Y h){a d:Nat}(x:bj Y h a d):¬ wV d:=by
 rintro⟨t,ht,rfl⟩;obtain⟨ps,e1,_⟩:=I.tab t ht;obtain⟨es,n,e'⟩:=I.AX x
 nomatch e1,e'
def OR.Kp{a:Nat}{ob:Obj}(x:OR J w h a o)(e:h.get? a=some ob):¬ pZ ob:=by
 rintro⟨vs,q,t,hd,_⟩;cases x with
 |inst e' _ _=>nomatch e,e';cases hd
 |lst e' _ _=>nomatch e,e';cases hd
 |cO e' _ _=>obtain⟨o,e',h2,n,h3⟩:=e';nomatch e,e';nomatch h3,hd
 |tup e' _ _=>obtain⟨o,e',h2,n,h3⟩:=e';nomatch e,e';nomatch h3,hd
 |aP e' _=>obtain⟨o,es,e',_,h3,_⟩:=e';nomatch e,e';nomatch h3,hd
theorem Inv.uQ(I:Inv J w bz Y h):Y h.objs.size=none:=I.unset (by
 cases e:h.get? h.objs.size with
 |none=>rfl
 |some o=>show absurd (dK e) (Nat.lt_irrefl _))
def i5(h:Heap):h.get? h.objs.size=none:=by
 cases e:h.get? h.objs.size with
 |none=>rfl
 |some o=>show absurd (dK e) (Nat.lt_irrefl _)
abbrev Grows(h h':Heap):Prop:=∀b o,h.get? b=some o->h'.get? b=some o
def bj.grow(I:Inv J w bz Y h)(k:Grows h h'){a d:Nat}:bj Y h' a d↔bj Y h a d:=by
 constructor
 ·rintro⟨c,fs,ox,e,hx,hd⟩;obtain⟨ob,e'⟩:=(I.rep a _ e).here;have:=k _ _ e'
  nomatch hx,this
  show⟨c,fs,ox,e,e',hd⟩
 ·rintro⟨c,fs,ox,e,hx,hd⟩;show⟨c,fs,ox,e,k _ _ hx,hd⟩
def aD.grow(I:Inv J w bz Y h)(k:Grows h h'):aD Y h' b↔aD Y h b:=by
 unfold aD;simp only[bj.grow I k]
theorem Inv.grow(I:Inv J w bz Y h)(k:Grows h h'):Inv J w bz Y h' where
 stays:=λb o e=>k b o (I.stays b o e)
 rep:=λa o e=>(I.rep a o e).keeps (λob=>k a ob) (λob d od _ _ e' _=>k d od e')
 old:=λb o e m=>I.old b o e ((aD.grow I k).mp m)
 sep:=λa d x=>I.sep a d ((bj.grow I k).mp x)
 inj:=λa b d x y=>I.inj a b d ((bj.grow I k).mp x) ((bj.grow I k).mp y)
 tab:=λt ht=>tab_keep (I.tab t ht) (by obtain⟨ps,e,_⟩:=I.tab t ht;rw[e];show k _ _ e) λb o e _=>k b o e
theorem Step.grow(I:Inv J w bz Y h)(k:Grows h h'):Step own Y Y h h':=⟨λb o e=>⟨o,k b o e⟩,λb o e n=>⟨o,k b o e,λm=>n ((aD.grow I k).mp m),.inr (.inl rfl)⟩,λb o e n=>n⟩
theorem At.refl(I:Inv J w bz Y s.heap):At J w bz own Y s Y s:=⟨⟨s.heap,s.toks,rfl⟩,I,.refl⟩
def At.trans{Y1 Y2:So}{s0 s1 s2:Shared}(x:At J w bz own Y0 s0 Y1 s1)(y:At J w bz own Y1 s1 Y2 s2):At J w bz own Y0 s0 Y2 s2:=by
 obtain⟨⟨h,tk,e⟩,I,S⟩:=x;obtain⟨⟨h',tk',e'⟩,I',S'⟩:=y;exact⟨⟨h',tk',?_⟩,I',S.trans S'⟩;rw[e',e]
theorem At.mono{lE:Nat->Prop}{s0:Shared}(x:At J w bz own Y0 s0 Y s)(k:∀b o,s0.heap.get? b=some o->own b->lE b):At J w bz lE Y0 s0 Y s:=⟨x.1,x.2.1,x.2.2.mono k⟩
def At.grow{s0:Shared}(x:At J w bz own Y0 s0 Y s)(k:Grows s.heap h'):At J w bz own Y0 s0 Y { s with heap:=h',toks:=tk}:=by
 obtain⟨⟨h,t,e⟩,I,S⟩:=x;exact⟨⟨h',tk,by rw[e]⟩,I.grow k,S.trans (.grow I k)⟩
theorem At.toks{s0:Shared}(x:At J w bz own Y0 s0 Y s):At J w bz own Y0 s0 Y { s with toks:=tk}:=x.grow λ_ _ e=>e
def O.DU:O->Bool
 | .inst _ _=>true
 |_=>false
def At.store{s0:Shared}{a:Nat}{o':O}(x:At J w bz own Y0 s0 Y s)(ho:Y a=some o)(hm:o.mut=true)(hi:o.DU=false)(fK:o'.mut=true)(lF:o'.DU=false)
  (k:Heap.SameBut a s.heap h') (r:OR J w h' a o'):At J w bz own Y0 s0 (put Y a o') { s with heap:=h',toks:=tk}:=by
 obtain⟨⟨h,t,e⟩,I,S⟩:=x;have ni:∀c fs,o≠.inst c fs:=λc fs e=>by subst e;cases hi
 have S4:∀c fs,o'≠.inst c fs:=λc fs e=>by subst e;cases lF
 have nd:∀b d,bj Y s.heap b d->d≠a:=λb d hd e=>by have:=I.sep b d hd;nomatch e,ho,this
 have da:∀b d,bj (put Y a o') h' b d↔bj Y s.heap b d:=by
  intro b d;constructor
  ·rintro⟨c,fs,ox,e,hx,hd⟩;rcases hO e with⟨rfl,e'⟩ | ⟨au,e'⟩
   ·show absurd e'.symm (S4 _ _)
   ·show⟨c,fs,ox,e',(k.2 b au) ▸ hx,hd⟩
  ·rintro⟨c,fs,ox,e,hx,hd⟩;have au:b≠a:=λq=>by subst q;rewrite [ho] at e;show ni _ _ (dW e)
   show⟨c,fs,ox,by rw[dO au];show e,(k.2 b au).trans hx,hd⟩
 have mu:∀b,aD (put Y a o') h' b↔aD Y s.heap b:=by
  intro b;unfold aD;simp only[da];constructor
  ·rintro(⟨q,e,m⟩ | y)
   ·rcases hO e with⟨rfl,_⟩ | ⟨_,e'⟩
    ·show .inl ⟨o,ho,hm⟩
    ·show .inl ⟨q,e',m⟩
   ·show .inr y
  ·rintro(⟨q,e,m⟩ | y)
   ·by_cases hb:b=a
    ·subst hb;show .inl ⟨o',AW,fK⟩
    ·show .inl ⟨q,by rw[dO hb];show e,m⟩
   ·show .inr y
 have ma:aD Y s.heap a:=.inl ⟨o,ho,hm⟩;exact⟨⟨h',tk,by rw[e]⟩,⟨λb ob e=>?_,λb q e=>?_,λb ob e m=>I.old b ob e ((mu b).mp m),λb d y=>?_,λb c d y z=>I.inj b c d ((da _ _).mp y) ((da _ _).mp z),λt ht=>tab_keep (I.tab t ht) (k.2 _ λq=>I.wW ho ⟨t,ht,q.symm⟩) λb ob e r=>(k.2 b λq=>(I.rep _ _ ho).Kp (q ▸ e) r).trans e⟩,S.trans ⟨λb o e=>(Decidable.em (b=a)).elim (λq=>q ▸ r.here) λq=>⟨o,(k.2 b q).trans e⟩,λb ob e n=>?_,λb ob e n=>(dO λq=>by subst q;nomatch ho,n).trans n⟩⟩
 ·show(k.2 b λq=>I.old b ob e (q ▸ ma)).trans (I.stays b ob e)
 ·rcases hO e with⟨rfl,rfl⟩ | ⟨au,e'⟩
  ·show r
  ·exact(I.rep b q e').keeps (λob z=>(k.2 b au).trans z) λob d od z zd zo hq=>?_;obtain⟨c,fs,rfl⟩:=hq;show(k.2 d (nd b d ⟨c,fs,ob,e',z,zd⟩)).trans zo
 ·have y':=(da _ _).mp y;rw[dO (nd b d y')];show I.sep b d y'
 ·show⟨ob,(k.2 b λq=>n (q ▸ ma)).trans e,λm=>n ((mu b).mp m),.inr (.inl rfl)⟩
def At.Kq{s0:Shared}{a c d:Nat}{fs fs':List (Nat×V)}{sl:Array (Option Value)}{es:List DictEntry}{n:Nat}(x:At J w bz own Y0 s0 Y s)(ho:Y a=some (.inst c fs))(hx:s.heap.get? a=some (uP c d sl))
  (k:Heap.SameBut d s.heap h') (hd:h'.get? d=some (dictOf es n)) (f:Fl es fs'):At J w bz own Y0 s0 (Tactic.put Y a (.inst c fs')) { s with heap:=h',toks:=tk}:=by
 obtain⟨⟨h,t,e⟩,I,S⟩:=x;have lG:bj Y s.heap a d:=⟨c,fs,_,ho,hx,rfl⟩;have sd:Y d=none:=I.sep a d lG;have ne:∀b o,Y b=some o->b≠d:=λb o e q=>by nomatch q,sd,e
 have da:∀b d',bj (Tactic.put Y a (.inst c fs')) h' b d'↔bj Y s.heap b d':=by
  intro b d';constructor
  ·rintro⟨c',oH,ox,e,fj,di⟩;rcases hO e with⟨rfl,e'⟩ | ⟨au,e'⟩
   ·show⟨c,fs,ox,ho,(k.2 _ (ne _ _ ho)) ▸ fj,di⟩
   ·show⟨c',oH,ox,e',(k.2 _ (ne _ _ e')) ▸ fj,di⟩
  ·rintro⟨c',oH,ox,e,fj,di⟩;have wX:=(k.2 b (ne _ _ e)).trans fj;by_cases hb:b=a
   ·subst hb;show⟨c,fs',ox,AW,wX,di⟩
   ·show⟨c',oH,ox,by rw[dO hb];show e,wX,di⟩
 have mu:∀b,aD (Tactic.put Y a (.inst c fs')) h' b↔aD Y s.heap b:=by
  intro b;unfold aD;simp only[da];constructor
  ·rintro(⟨q,e,m⟩ | y)
   ·clear da hx;rcases hO e with⟨rfl,_⟩ | ⟨_,e'⟩
    ·show .inl ⟨_,ho,rfl⟩
    ·show .inl ⟨q,e',m⟩
   ·show .inr y
  ·rintro(⟨q,e,m⟩ | y)
   ·by_cases hb:b=a
    ·subst hb;show .inl ⟨_,AW,rfl⟩
    ·show .inl ⟨q,by rw[dO hb];show e,m⟩
   ·show .inr y
 have md:aD Y s.heap d:=.inr (.inl ⟨a,lG⟩);exact⟨⟨h',tk,by rw[e]⟩,⟨λb ob e=>?_,λb q e=>?_,λb ob e m=>I.old b ob e ((mu b).mp m),λb d' y=>?_,λb c' d' y z=>I.inj b c' d' ((da _ _).mp y) ((da _ _).mp z),λt ht=>tab_keep (I.tab t ht) (k.2 _ λq=>I.Ko lG ⟨t,ht,q.symm⟩) λb ob e r=>(k.2 b λq=>by
  obtain⟨cJ,n',e'⟩:=I.AX lG;obtain⟨vs,_,_,di,_⟩:=r;clear hd hx ne sd;subst q;nomatch e',e;cases di).trans e⟩,S.trans ⟨λb o e=>(Decidable.em (b=d)).elim (λq=>q ▸ ⟨_,hd⟩) λq=>⟨o,(k.2 b q).trans e⟩,λb ob e nn=>?_,λb ob e n=>(dO λq=>by clear da hx mu;subst q;nomatch ho,n).trans n⟩⟩
 ·show(k.2 b λq=>I.old b ob e (q ▸ md)).trans (I.stays b ob e)
 ·rcases hO e with⟨rfl,rfl⟩ | ⟨au,e'⟩
  ·show .inst ((k.2 _ (ne _ _ ho)).trans hx) hd f
  ·exact(I.rep b q e').keeps (λob z=>(k.2 b (ne _ _ e')).trans z) λob d' od z zd zo hq=>?_;obtain⟨c',oH,rfl⟩:=hq;show(k.2 d' λq=>au (I.inj b a d ⟨c',oH,ob,e',z,q ▸ zd⟩ lG)).trans zo
 ·have y':=(da _ _).mp y;have:d'≠a:=λq=>by have:=I.sep b d' y';nomatch q,ho,this
  rw[dO this];show I.sep b d' y'
 ·show⟨ob,(k.2 b λq=>nn (q ▸ md)).trans e,λm=>nn ((mu b).mp m),.inr (.inl rfl)⟩
def At.add{s0:Shared}{a:Nat}(x:At J w bz own Y0 s0 Y s)(hn:s.heap.get? a=none)(hi:o.DU=false)(k:Grows s.heap h')(r:OR J w h' a o) :
  At J w bz own Y0 s0 (Tactic.put Y a o) { s with heap:=h',toks:=tk}:=by
 obtain⟨⟨h,t,e⟩,I,S⟩:=x;have ni:∀c fs,o≠.inst c fs:=λc fs e=>by subst e;cases hi
 have sa:Y a=none:=I.unset hn;have I':=I.grow k;have da:∀b d,bj (Tactic.put Y a o) h' b d↔bj Y h' b d:=by
  intro b d;constructor
  ·rintro⟨c,fs,ox,e,hx,hd⟩;rcases hO e with⟨rfl,e'⟩ | ⟨au,e'⟩
   ·show absurd e'.symm (ni _ _)
   ·show⟨c,fs,ox,e',hx,hd⟩
  ·rintro⟨c,fs,ox,e,hx,hd⟩;have au:b≠a:=λq=>by subst q;nomatch sa,e
   show⟨c,fs,ox,by rw[dO au];show e,hx,hd⟩
 have mu:∀b,b≠a->aD (Tactic.put Y a o) h' b->aD Y s.heap b:=by
  intro b hb m;exact(aD.grow I k).mp ?_;unfold aD at m ⊢;simp only[da] at m;rcases m with⟨q,e,m⟩ | y
  ·show .inl ⟨q,by rewrite [dO hb] at e;show e,m⟩
  ·show .inr y
 have ne:∀b ob,s.heap.get? b=some ob->b≠a:=λb ob e q=>by nomatch q,hn,e
 exact⟨⟨h',tk,by rw[e]⟩,⟨I'.stays,λb q e=>?_,λb ob e m=>I.old b ob e (mu b (ne _ _ (I.stays b ob e)) m),λb d y=>?_,λb c d y z=>I'.inj b c d ((da _ _).mp y) ((da _ _).mp z),I'.tab⟩,S.trans ⟨λb o e=>⟨o,k b o e⟩,λb ob e n=>?_,λb ob e n=>(dO (ne b ob e)).trans n⟩⟩
 ·rcases hO e with⟨rfl,rfl⟩ | ⟨au,e'⟩
  ·show r
  ·show I'.rep b q e'
 ·have y':=(da _ _).mp y;obtain⟨od,e'⟩:=I.dat ((bj.grow I k).mp y');rw[dO (ne _ _ e')];show I'.sep b d y'
 ·show⟨ob,k b ob e,λm=>n (mu b (ne _ _ e) m),.inr (.inl rfl)⟩
def At.Kr{s0:Shared}{a c d:Nat}{fs:List (Nat×V)}{sl:Array (Option Value)}{es:List DictEntry}{n:Nat}(x:At J w bz own Y0 s0 Y s)(hn:s.heap.get? a=none)(qb:s.heap.get? d=none)(had:a≠d)(k:Grows s.heap h')
  (hx:h'.get? a=some (uP c d sl)) (hd:h'.get? d=some (dictOf es n)) (f:Fl es fs):At J w bz own Y0 s0 (Tactic.put Y a (.inst c fs)) { s with heap:=h',toks:=tk}:=by
 obtain⟨⟨h,t,e⟩,I,S⟩:=x;have sa:Y a=none:=I.unset hn;have sd:Y d=none:=I.unset qb;have I':=I.grow k;have da:∀b d',bj (Tactic.put Y a (.inst c fs)) h' b d'->(b=a/\d'=d)\/(b≠a/\bj Y h' b d'):=by
  rintro b d' ⟨c',fs',ox,e,fj,di⟩;rcases hO e with⟨rfl,e'⟩ | ⟨au,e'⟩
  ·nomatch hx,fj;cases di;show .inl ⟨rfl,rfl⟩
  ·show .inr ⟨au,c',fs',ox,e',fj,di⟩
 have ne:∀b ob,s.heap.get? b=some ob->b≠a:=λb ob e q=>by nomatch q,hn,e
 have DV:∀b ob,s.heap.get? b=some ob->b≠d:=λb ob e q=>by nomatch q,qb,e
 have mu:∀b,b≠a->b≠d->aD (Tactic.put Y a (.inst c fs)) h' b->aD Y s.heap b:=by
  intro b hb aK m;exact(aD.grow I k).mp ?_;rcases m with⟨q,e,m⟩ | ⟨z,y⟩ | y
  ·show .inl ⟨q,by rewrite [dO hb] at e;show e,m⟩
  ·rcases da z b y with⟨_,q⟩ | ⟨_,y⟩
   ·show absurd q aK
   ·show .inr (.inl ⟨z,y⟩)
  ·show .inr (.inr y)
 have rU:∀b d',bj Y h' b d'->d'≠a/\d'≠d:=λb d' y=>by
  obtain⟨od,e'⟩:=I.dat ((bj.grow I k).mp y);show⟨ne _ _ e',DV _ _ e'⟩
 exact⟨⟨h',tk,by rw[e]⟩,⟨I'.stays,λb q e=>?_,λb ob e m=>I.old b ob e (mu b (ne _ _ (I.stays b ob e)) (DV _ _ (I.stays b ob e)) m),λb d' y=>?_,λb b' d' y z=>?_,I'.tab⟩,S.trans ⟨λb o e=>⟨o,k b o e⟩,λb ob e n=>?_,λb ob e n=>(dO (ne b ob e)).trans n⟩⟩
 ·rcases hO e with⟨rfl,rfl⟩ | ⟨au,e'⟩
  ·show .inst hx hd f
  ·show I'.rep b q e'
 ·rcases da b d' y with⟨_,rfl⟩ | ⟨_,y'⟩
  ·rw[dO (aaa had)];show sd
  ·rw[dO (rU _ _ y').1];show I'.sep b d' y'
 ·rcases da b d' y with⟨rfl,rfl⟩ | ⟨_,y'⟩<;>rcases da b' _ z with⟨rfl,q⟩ | ⟨_,z'⟩
  ·rfl
  ·show absurd rfl (rU _ _ z').2
  ·show absurd q (rU _ _ y').2
  ·show I'.inj b b' d' y' z'
 ·show⟨ob,k b ob e,λm=>n (mu b (ne _ _ e) (DV _ _ e) m),.inr (.inl rfl)⟩
def At.Ks{s0:Shared}{L:Nat}{oL:Obj}(x:At J w bz own Y0 s0 Y s)(hL:s.heap.get? L=some oL)(nm:¬ aD Y s.heap L)(nb:bz.get? L=none)(hi:∀b c fs,Y b=some (.inst c fs)->b≠L)
  (ow:own L\/s0.heap.get? L=none) (k:Heap.SameBut L s.heap h') (he:∃o',h'.get? L=some o') (nr:Y L=none) (nR:¬ pZ oL):At J w bz own Y0 s0 Y { s with heap:=h',toks:=tk}:=by
 obtain⟨⟨h,t,e⟩,I,S⟩:=x;have da:∀b d,bj Y h' b d↔bj Y s.heap b d:=by
  intro b d;constructor
  ·rintro⟨c,fs,ox,e,hx,hd⟩;show⟨c,fs,ox,e,(k.2 b (hi _ _ _ e)) ▸ hx,hd⟩
  ·rintro⟨c,fs,ox,e,hx,hd⟩;show⟨c,fs,ox,e,(k.2 b (hi _ _ _ e)).trans hx,hd⟩
 have mu:∀b,aD Y h' b↔aD Y s.heap b:=λb=>by unfold aD;simp only[da]
 exact⟨⟨h',tk,by rw[e]⟩,⟨λb ob e=>?_,λb q e=>?_,λb ob e m=>I.old b ob e ((mu b).mp m),λb d y=>I.sep b d ((da _ _).mp y),λb c d y z=>I.inj b c d ((da _ _).mp y) ((da _ _).mp z),λt ht=>tab_keep (I.tab t ht) (k.2 _ λq=>nm (.inr (.inr ⟨t,ht,q.symm⟩))) λb ob e r=>(k.2 b λq=>by clear he hi nb nr ow;subst q;nomatch hL,e;show nR r).trans e⟩,⟨λb o e=>let ⟨o',e'⟩:=S.kp b o e;(Decidable.em (b=L)).elim (λq=>q ▸ he) λq=>⟨o',(k.2 b q).trans e'⟩,λb ob e n=>?_,S.nw⟩⟩
 ·show(k.2 b λq=>by clear hL he hi nr ow;subst q;nomatch nb,e).trans (I.stays b ob e)
 ·have hb:b≠L:=λq=>by clear hL he hi nb ow;subst q;nomatch nr,e
  exact(I.rep b q e).keeps (λob z=>(k.2 b hb).trans z) λob d od z zd zo hq=>?_;obtain⟨c,fs,rfl⟩:=hq;show(k.2 d λq=>nm (q ▸ .inr (.inl ⟨b,c,fs,ob,e,z,zd⟩))).trans zo
 ·obtain⟨o1,e1,n1,u⟩:=S.st b ob e n;by_cases hb:b=L
  ·subst hb;obtain⟨o',e'⟩:=he;exact⟨o',e',λm=>n1 ((mu _).mp m),?_⟩;rcases ow with ow | ow
   ·show .inl ow
   ·nomatch ow,e
  ·show⟨o1,(k.2 b hb).trans e1,λm=>n1 ((mu b).mp m),u⟩
end
end Tactic
namespace Tactic
open PySem PySem.W PySem.Calls PyProof.Rows PySem.Spec Lh.Tactic
noncomputable section
set_option tactic.hygienic false
variable{v:Value}{Y Y' Y0:So}{h h' bz:Heap}{m:Env}
def kA:List Nat:=cT++[37,116,137,368,569,639,674,780,968,1045,1085,3,687,847,884]++fT.map (·.a)++fT.map (·.cd)
def dY(P:Params)(a:Nat):Obj:=ob P dS 104 279 true false a
def KF(P:Params):Frag:=kA.map λa=>(a,dY P a)
def S5(P:Params):kA.map (λa=>(s8 P default).tree.get a)=kA.map (λa=>some (dY P a)):=by kernel_rfl
def S6(P:Params):kA.map (λa=>alive (dY P a))=kA.map (λa=>some (dY P a)):=by kernel_rfl
def S7:(kA.all λa=>Nat.blt a 1146)=true:=by decide +kernel
def S8{f:Nat->Obj}:∀{l:List Nat}{a:Nat}{o:Obj},(l.map λa=>(a,f a)).lookup a=some o->a∈l/\o=f a:=by
 intro zl;induction zl with
 |nil=>
  intro _ _ h;cases h
 |cons b r ih=>
  intro a o h;rw[dU,lc] at h;split at h
  ·rename_i q;cases h;rw[bq.mp q];show⟨.head _,rfl⟩
  ·obtain⟨h1,h2⟩:=ih h;show⟨.tail _ h1,h2⟩
theorem AY{α:Type}{f g:Nat->α}{l:List Nat}(h:l.map f=l.map g):∀a∈l,f a=g a:=List.map_inj_left.mp h
def S9(P:Params){a:Nat}(h:a∈kA):(H1 P).get? a=some (dY P a):=by
 have h1:=AY (S5 P) a h;have h2:=AY (S6 P) a h;have h3:a<1146:=by have:=bR.mp S7 a h;simp[Nat.blt] at this;show⟨"A>1146,A.1145",this⟩
 show(abs_get (t:=(s8 P default).tree) (n:=1146) (life:=(s8 P default).life) h3 h1).trans h2
def rV:Option (Option Value):=some (some (.builtin "object.__setattr__"))
def attrOk(K:Frag)(p:Nat×Nat):Bool:=plainGet K (cD p.1) (nm p.2) && hasDictIn K (cD p.1) && findIn K (.ref (cD p.1)) (nm p.2) == some none && findIn K (.ref (cD p.1)) "__setattr__" == rV && plainOver K (cD p.1) &&
 takerIn K (cD p.1) (nm p.2) == some none
def nA(c k:Nat):Bool:=aT.any λp=>Nat.beq p.1 c && Nat.beq p.2 k && !Nat.beq c 0
def Ta(P:Params):(aT.all λp=>Nat.beq p.1 0 || attrOk (KF P) p)=true:=by kernel_rfl
def Kt(K:Frag)(p:Nat×Nat×Nat):Bool:=plainGet K (cD p.1) (nm p.2.1) && findIn K (.ref (cD p.1)) (nm p.2.1) == some (some (.ref (gF p.2.2))) && isFn K (.ref (gF p.2.2))
def Tb(P:Params):(mT.all λp=>Kt (KF P) p)=true:=by kernel_rfl
def Ku(K:Frag)(p:Nat×Nat):Bool:=makesIn K (cD p.1) && findIn K (.ref (cD p.1)) "__init__" == some (some (.ref (gF p.2))) && isFn K (.ref (gF p.2)) && keepIn K (.ref (cD p.1))
def Tc(P:Params):(kT.all λp=>Ku (KF P) p)=true:=by kernel_rfl
def Kw(K:Frag)(r:FR):Bool:=isFn K (.ref r.a) && keepIn K (.ref r.a) && codeIn K (.ref r.cd) (Str.ofString r.ql)
def Td(P:Params):(fT.all λr=>Kw (KF P) r)=true:=by kernel_rfl
def Tf(P:Params):fT.map (λr=>dY P r.a)=fT.map (λr=>Fn r.nm r.ql r.st r.dV r.pm (.ref r.cd)):=by kernel_rfl
def Kx:(fT.all λr=>kA.contains r.a && kA.contains r.cd)=true:=by decide +kernel
def Ti:(kA.all λa=>!(tP.any λp=>Nat.beq p a))=true:=by decide +kernel
structure Cx(w:World)(bz:Heap):Prop where
 k:(KF w.params).In bz
 lim:bz.NoLimit
 bi:∃mb:Str->Option Value,bz.Ns builtinsNs mb/\∀x:Str,x≠"__name__"->mb x=bootBuiltins x
 gl:∃mg:Str->Option Value,bz.Ns mainGlobals mg/\∃bm ob,mg "__builtins__"=some (.ref bm)/\bm≠builtinsNs/\bz.get? bm=some ob/\ob.cls=.type "module"/\ob.dict=some builtinsNs/\ob.data=.plain
 head:∀t∈tabs,CodeHd bz t.1 t.2.1
 DW:∃o,bz.get? sysModules=some o
def Tj:(iU.all λe=>!(Str.ofString e.1 == ("__name__":Str)))=true:=by decide +kernel
def Tp:iU.take 104=iU:=by kernel_rfl
def K_3(P:Params):(KF P).lookup mainGlobals=some (D P (("__name__",165,dS)::iU.take 104) 105):=by kernel_rfl
def Tq(P:Params)(x:Str):∀l:List (String×Nat×Value),((jQ P l).find? (·.key.isStr x)).map (·.val)=(l.find? λe=>Str.ofString e.1 == x).map (·.2.2):=by
 intro zl;induction zl with
 |nil=>
  show rfl
 |cons zx r ih=>
  obtain⟨n,t,v⟩:=zx;dsimp only[jQ];rw[List.find?_cons,List.find?_cons];have:(Value.str (Str.ofString n) t).isStr x=(Str.ofString n == x):=rfl;dsimp only;rw[this];cases (Str.ofString n == x) with
  |true=>rfl
  |false=>show ih
def Tr(P:Params):∀l:List (String×Nat×Value),(jQ P l).any (·.refKey)=false:=by
 intro zl;induction zl with
 |nil=>
  show rfl
 |cons zx r ih=>
  obtain⟨n,t,v⟩:=zx;dsimp only[jQ];rw[List.any_cons,ih];rfl
def Ky(P:Params)(x:Str):nsIn (KF P) mainGlobals x=some (((("__name__",165,dS)::iU).find? λe=>Str.ofString e.1 == x).map (·.2.2)):=by
 unfold nsIn;rw[K_3,Tp];have h1:=Tq P x (("__name__",165,dS)::iU);have h2:=Tr P (("__name__",165,dS)::iU);show(match List.find? (λe=>e.key.isStr x) (jQ P _) with | some e=>some (some e.val) | none=>if (jQ P _).any (·.refKey)=true then none else some none)=_
 rw[<-h1,h2];cases List.find? (λe=>e.key.isStr x) (jQ P (("__name__",165,dS)::iU)) with
 |none=>simp
 |some e=>rfl
def Kz{P:Params}{x:Str}(e:kR x=some v):nsIn (KF P) mainGlobals x=some (some v):=by
 rw[Ky];have hx:(Str.ofString "__name__" == x)=false:=by
  cases q:(Str.ofString "__name__" == x) with
  |false=>rfl
  |true=>
   have q':Str.ofString "__name__"=x:=bq.mp q;unfold kR at e;cases hf:iU.find? λe=>Str.ofString e.1 == x with
   |none=>nomatch hf,e
   |some z=>
    have h1:=bR.mp Tj z (List.mem_of_find?_eq_some hf);have h2:=List.find?_some hf;rw[bq.mp h2,<-q'] at h1;have:(Str.ofString "__name__" == ("__name__":Str))=true:=by decide +kernel
    nomatch this,h1
 rw[List.find?_cons,hx];show congrArg some e
def Ts{P:Params}{x:Str}(e:kR x=none)(hn:x≠"__name__"):nsIn (KF P) mainGlobals x=some none:=by
 rw[Ky];have hx:(Str.ofString "__name__" == x)=false:=by
  cases q:(Str.ofString "__name__" == x) with
  |false=>rfl
  |true=>show absurd (bq.mp q).symm hn
 rw[List.find?_cons,hx];show congrArg some e
structure Act where
 env:PySem.Env
 fl:List PySem.Env
variable{J:Program}{w:World}{bz:Heap}
def eE(h:Heap)(env:PySem.Env)(x:Str)(v:Value):Prop:=
 (env.kindOf x=some .local/\∃m,h.Ns env.locals m/\m x=some v)\/((env.kindOf x=some .cell\/env.kindOf x=some .free)/\∃c,env.cells.lookup x=some c/\h.IsCell c (some v))
inductive iy(bz:Heap)(Y:So)(h:Heap)(fa:Nat)(ai:List Nat)(b:E)(aq:List (Nat×V)):Prop
 |mk (ar:Arguments) (bo:Expr) (inner:Scope) (c':Nat) (eH:Value) (cl:List (Str×Addr)) (q:Str) (pm:Value) (sc:Scope) (cps:List Nat) (h0:h.get? fa=some (kla_obj "<lambda>" q ar bo inner cl pm c' eH)) (h1:¬ aD Y h fa) (h2:h.CodeRec (.ref c') q) (h3:¬ aD Y h c') (h4:wI sc ai cps ar inner=true) (h5:ay inner b bo=true) (h6:(cps=aq.map (·.1)/\(∀x c,cl.lookup x=some c->∃k v,x=nm k/\lk aq k=some v)/\∀x y c,cl.lookup x=some c->cl.lookup y=some c->x=y)) (h7:∀x v,lk aq x=some v->∃c rv,cl.lookup (nm x)=some c/\h.IsCell c (some rv)/\VR rv v/\¬ aD Y h c/\bz.get? c=none):iy bz Y h fa ai b aq
def Loc(bz:Heap)(Y:So)(h:Heap)(env:PySem.Env)(x:Nat)(v:V):Prop:=match v with
 | .bA p b cs=>∃fa,eE h env (nm x) (.ref fa)/\iy bz Y h fa p b cs
 |v=>∃rv,eE h env (nm x) rv/\VR rv v
def lH(bz:Heap)(Y:So)(h:Heap)(fl:List PySem.Env):Prop:=∀env∈fl,env.scope.kind≠.module/\∃L,env.frame=some L/\bz.get? L=none/\¬ aD Y h L/\∃mm,h.Ns L mm
def rW(env:PySem.Env)(n:Str):Bool:=gS (env.kindOf n) true true true false
structure i6(bz:Heap)(f:Act)(m:Env)(Y:So)(h:Heap):Prop where
 ns:∃mm,h.Ns f.env.locals mm
 i7:¬ aD Y h f.env.locals
 qc:bz.get? f.env.locals=none
 gb:∀x c,f.env.cells.lookup x=some c->(∃v,h.IsCell c v)/\¬ aD Y h c/\bz.get? c=none
 loc:∀x v,rW f.env (nm x)=true->lk m x=some v->Loc bz Y h f.env x v
 cK:lH bz Y h f.fl
structure dZ(f:Act)(sc:Scope):Prop where
 se:f.env.scope=sc
 kind:sc.kind=.function
 gl:f.env.globals=mainGlobals
 bi:f.env.builtins=builtinsNs
 KC:(∀x,sc.names.lookup x≠some .cell)\/∃r∈fT,f.env.code=.ref r.cd/\f.env.qual=Str.ofString r.ql++".<locals>."
 inj:∀x y c,f.env.cells.lookup x=some c->f.env.cells.lookup y=some c->x=y
 cin:∀x,sc.names.lookup x=some .cell\/sc.names.lookup x=some .free->∃c,f.env.cells.lookup x=some c
def AZ{L:Nat}{mm:Str->Option Value}(S:Step nil Y Y' h h')(n:h.Ns L mm)(nm:¬ aD Y h L):h'.Ns L mm/\¬ aD Y' h' L:=by
 obtain⟨o,es,ep,e,hd,r⟩:=n;obtain⟨o',e',n',u⟩:=S.st L o e nm;rcases u with u | u
 ·show u.elim
 ·show⟨⟨o',es,ep,e',u.data.trans hd,r⟩,n'⟩
def cell_step{c:Nat}{v:Option Value}(S:Step nil Y Y' h h')(x:h.IsCell c v)(nm:¬ aD Y h c):h'.IsCell c v/\¬ aD Y' h' c:=by
 obtain⟨o,e,hd⟩:=x;obtain⟨o',e',n',u⟩:=S.st c o e nm;rcases u with u | u
 ·show u.elim
 ·show⟨⟨o',e',u.data.trans hd⟩,n'⟩
def eE.step{f:Act}{x:Str}(S:Step nil Y Y' h h')(L:i6 bz f m Y h)(hx:eE h f.env x v):eE h' f.env x v:=by
 rcases hx with⟨hk,mm,n,e⟩ | ⟨hk,c,e,hc⟩
 ·show .inl ⟨hk,mm,(AZ S n L.i7).1,e⟩
 ·show .inr ⟨hk,c,e,(cell_step S hc (L.gb _ _ e).2.1).1⟩
def iy.step{fa:Nat}{p:List Nat}{b:E}{cs:List (Nat×V)}(S:Step nil Y Y' h h')(x:iy bz Y h fa p b cs):iy bz Y' h' fa p b cs:=by
 obtain⟨ar,bo,inner,c',eH,cl,q,pm,sc,cps,e1,e2,e3,e4,e5,e6,e7,e8⟩:=x;obtain⟨o',a1,a2,a3⟩:=S.st fa _ e1 e2;obtain⟨cc,oc,vs,t,b1,b2,b3,b4⟩:=e3;cases b1;obtain⟨Tt,c1,c2,c3⟩:=S.st c' _ b2 e4;exact⟨ar,bo,inner,c',eH,cl,q,pm,sc,cps,?_,a2,⟨c',Tt,vs,t,rfl,c1,?_,b4⟩,c2,e5,e6,e7,λx v hx=>?_⟩
 ·rcases a3 with u | u
  ·show u.elim
  ·rw[a1];show congrArg some (u.show λ_ _ z=>by cases z)
 ·rcases c3 with u | u
  ·show u.elim
  ·show u.data.trans b3
 ·obtain⟨c,rv,d1,d2,d3,d4,d5⟩:=e8 x v hx;obtain⟨rX,Tv⟩:=cell_step S d2 d4;show⟨c,rv,d1,rX,d3,Tv,d5⟩
theorem lH.step{fl:List PySem.Env}(S:Step nil Y Y' h h')(x:lH bz Y h fl):lH bz Y' h' fl:=λenv he=>by
 obtain⟨hk,L,hf,hb,hm,mm,n⟩:=x env he;obtain⟨n',m'⟩:=AZ S n hm;show⟨hk,L,hf,hb,m',mm,n'⟩
theorem i6.step{f:Act}(L:i6 bz f m Y h)(S:Step nil Y Y' h h'):i6 bz f m Y' h' where
 ns:=let ⟨mm,n⟩:=L.ns;⟨mm,(AZ S n L.i7).1⟩
 i7:=let ⟨mm,n⟩:=L.ns;(AZ S n L.i7).2
 qc:=L.qc
 gb:=λx c e=>by
  obtain⟨⟨v,hv⟩,hm,hb⟩:=L.gb x c e;obtain⟨a,b⟩:=cell_step S hv hm;show⟨⟨v,a⟩,b,hb⟩
 loc:=λx v hv e=>by
  have:=L.loc x v hv e;unfold Loc at this ⊢;split at this
  ·obtain⟨fa,a,b⟩:=this;show⟨fa,a.step S L,b.step S⟩
  ·obtain⟨rv,a,b⟩:=this;show⟨rv,a.step S L,b⟩
 cK:=L.cK.step S
inductive GE(J:Program)(w:World)(bz:Heap)(Y0:So)(s0:Shared)(Q:V->So->Prop)(v:Value)(s':Shared):Prop
 |mk (x:V) (Y':So) (h0:VR v x) (h1:Q x Y') (h2:At J w bz nil Y0 s0 Y' s'):GE J w bz Y0 s0 Q v s'
inductive KD(J:Program)(w:World)(bz:Heap)(Y0:So)(s0:Shared)(Q:List V->So->Prop)(vs:List Value)(s':Shared):Prop
 |mk (xs:List V) (Y':So) (h0:aF vs xs) (h1:Q xs Y') (h2:At J w bz nil Y0 s0 Y' s'):KD J w bz Y0 s0 Q vs s'
inductive GB(J:Program)(w:World)(bz:Heap)(Y0:So)(s0:Shared)(K:Bool->So->Prop)(b:Bool)(s':Shared):Prop
 |mk (Y':So) (h0:K b Y') (h1:At J w bz nil Y0 s0 Y' s'):GB J w bz Y0 s0 K b s'
abbrev bu:=List PySem.Env->Nat->Value->So->Shared->Shared->Prop
inductive BE(J:Program)(w:World)(bz:Heap)(F:bu)(fl:List PySem.Env)(Y0:So)(s0:Shared)(X:Nat->So->Prop)(e:Value)(s':Shared):Prop
 |mk (k:Nat) (Y':So) (s1:Shared) (h0:X k Y') (h1:At J w bz nil Y0 s0 Y' s1) (h2:F fl k e Y' s1 s'):BE J w bz F fl Y0 s0 X e s'
def BE.no{F:bu}{fl:List PySem.Env}{s0:Shared}{e:Value}{s':Shared}{P:Prop}(x:BE J w bz F fl Y0 s0 aN e s'):P:=by obtain⟨_,_,_,h,_⟩:=x;show h.elim
structure kW(A:Around)(f:Act)(n:Nat):Prop where
 handled:A.handled=none
 frames:A.frames=some f.fl
 depth:A.depth+4 * n+10<=900
 units:A.units+40 * n+100<=9000
def VC(bz:Heap)(Y:So)(h:Heap)(v:Value)(x:V):Prop:=match x with
 | .bA p b cs=>∃fa,v=.ref fa/\iy bz Y h fa p b cs
 |x=>VR v x
class inductive gH(bz:Heap)(Y:So)(h:Heap):List Value->List V->Prop
 |nil:gH bz Y h [] []
 |cons {v:Value}{x:V}{vs:List Value}{xs:List V}:VC bz Y h v x->gH bz Y h vs xs->gH bz Y h (v::vs) (x::xs)
def VR.vc{x:V}(r:VR v x):VC bz Y h v x:=by cases r<;>constructor
def aF.vc{vs:List Value}{xs:List V}(r:aF vs xs):gH bz Y h vs xs:=by
 induction r with
 |nil=>show .nil
 |cons a _ ih=>show .cons a.vc ih
def gH.snoc{vs:List Value}{xs:List V}{x:V}(r:gH bz Y h vs xs)(a:VC bz Y h v x):gH bz Y h (vs++[v]) (xs++[x]):=by
 induction r with
 |nil=>show .cons a .nil
 |cons b _ ih=>show .cons b ih
def Kept(bz:Heap)(Y:So)(h h':Heap):Prop:=∀b o,h.get? b=some o->∃o',h'.get? b=some o'/\Up o o'/\(o'=o\/(¬ aD Y h b/\bz.get? b=none))
inductive ExcAt(h₀ h:Heap)(x k:Nat):Prop
 |mk (o:Obj) (vs:Array Value) (mA:Str->Option Value) (t:Tok) (h0:h.get? x=some o) (h1:o.cls=.ref 38) (h2:o.data=.fields vs) (h3:h.Inst x 38 mA) (h4:mA (nm 23)=some (.str (nm k) t)) (h5:(∀d,o.dict=some d->h₀.get? d=none)) (h6:(vs[1]?=some .none\/∃T oT ts,vs[1]?=some (.ref T)/\T≠x/\h₀.get? T=none/\h.get? T=some oT/\oT.data=.fields ts/\ts[3]?=some .none)):ExcAt h₀ h x k
structure wY(bz:Heap)(fl:List PySem.Env)(k:Nat)(e:Value)(Y:So)(s1 s':Shared):Prop where
 same:∃h tk,s'={ s1 with heap:=h,toks:=tk}
 kept:Kept bz Y s1.heap s'.heap
 cK:lH bz Y s1.heap fl
 exc:∃x,e=.ref x/\s1.heap.get? x=none/\ExcAt s1.heap s'.heap x k
structure A1(J:Program)(w:World)(bz:Heap)(F:bu)(W:Wo)(n:Nat):Prop where
 A2:F=wY bz
 cu:W.cu=nA
 mt:∀c k f,W.mt c k=some f->(c,k,f)∈mT
 ctor:∀c f,W.ctor c=some f->(c,f)∈kT
 rY:∀i xs Q X Y,W.call i xs Q X Y->∃r,fT[i]?=some r
 call:∀(i:Nat) (r:FR),fT[i]?=some r->∀(A:Around) (f:Act) (vs:List Value) (xs:List V) (Q:V->So->Prop) (X:Nat->So->Prop) (Y0:So) (s0:Shared) (Y:So) (s:Shared),kW A f n->lH bz Y s.heap f.fl ->
  At J w bz nil Y0 s0 Y s->gH bz Y s.heap vs xs->W.call i xs Q X Y->codeAny (model J w) A (.call (.ref r.a) ⟨vs,[]⟩) (λres s'=>match res with
   | .ok (.ret v)=>GE J w bz Y0 s0 Q v s'
   | .ok _=>False
   | .error e=>BE J w bz F f.fl Y0 s0 X e s') s
 iY:∀(A:Around) (f:Act) (fa:Nat) (p:List Nat) (b:E) (cs:Env) (vs:List Value) (xs:List V) (Q:V->So->Prop) (Y0:So) (s0:Shared) (Y:So) (s:Shared),kW A f n->lH bz Y s.heap f.fl ->
  At J w bz nil Y0 s0 Y s->iy bz Y s.heap fa p b cs->aF vs xs->W.iY p b cs xs Q Y->codeAny (model J w) A (.call (.ref fa) ⟨vs,[]⟩) (λres s'=>match res with
   | .ok (.ret v)=>GE J w bz Y0 s0 Q v s'
   |_=>False) s
structure Cn(J:Program)(w:World)(bz:Heap)(F:bu)(W:Wo)(A:Around)(f:Act)(sc:Scope)(m:Env)(Y0:So)(s0:Shared)(Y:So)(s:Shared)(n:Nat):Prop where
 cx:Cx w bz
 wo:A1 J w bz F W n
 rm:kW A f (n+1)
 st:dZ f sc
 lv:i6 bz f m Y s.heap
 at_:At J w bz nil Y0 s0 Y s
def SE(e:E):Prop:=∀{J w bz F W A f sc m Y0 s0 Y s n},Cn J w bz F W A f sc m Y0 s0 Y s n->∀{ex},ay sc e ex=true->∀{Q X},wE W e m Q X Y ->
 wpAny (model J w) A (eval ex f.env) (GE J w bz Y0 s0 Q) (BE J w bz F f.fl Y0 s0 X) s
def iM(l:List E):Prop:=∀{J w bz F W A f sc m Y0 s0 Y s n},Cn J w bz F W A f sc m Y0 s0 Y s n->∀{es pos},bO sc l es=true->∀{Q X},wEs W l m Q X Y ->
 wpAny (model J w) A (spliced (backTo pos (starEach es f.env))) (KD J w bz Y0 s0 Q) (BE J w bz F f.fl Y0 s0 X) s
def SB(e:E):Prop:=∀{J w bz F W A f sc m Y0 s0 Y s n},Cn J w bz F W A f sc m Y0 s0 Y s n->∀{ex},ay sc e ex=true->∀{K X},wB W e m (wE W e m) K X Y ->
 wpAny (model J w) A (isTrue ex f.env (eval ex f.env)) (GB J w bz Y0 s0 K) (BE J w bz F f.fl Y0 s0 X) s
theorem Cn.go{F:bu}{W:Wo}{A:Around}{f:Act}{sc:Scope}{Y1 Y2:So}{s0 s1 s2:Shared}{n:Nat}(c:Cn J w bz F W A f sc m Y0 s0 Y1 s1 n)(a:At J w bz nil Y1 s1 Y2 s2):Cn J w bz F W A f sc m Y0 s0 Y2 s2 n:=
 ⟨c.cx,c.wo,c.rm,c.st,c.lv.step a.2.2,c.at_.trans a⟩
theorem Cn.here{F:bu}{W:Wo}{A:Around}{f:Act}{sc:Scope}{Y1:So}{s0 s1:Shared}{n:Nat}(c:Cn J w bz F W A f sc m Y0 s0 Y1 s1 n):Cn J w bz F W A f sc m Y1 s1 Y1 s1 n:=
 ⟨c.cx,c.wo,c.rm,c.st,c.lv,.refl c.at_.2.1⟩
end
end Tactic
namespace Tactic
open PySem PySem.W PySem.Calls PyProof.Rows PySem.Spec Lh.Tactic
noncomputable section
variable{J:Program}{w:World}{bz:Heap}
variable{A:Around}{s:Shared}{sc:Scope}{v u rv:Value}{Q:V->So->Prop}{n tk ep i fa L:Nat}{W:Wo}{m m':Env}{Y0 Y:So}{l ifs:List E}{es ps ds:List (Int×V)}{b:E}{own:Nat->Prop}{vs ws us:List Value}{xs ys:List V}{h h':Heap}{fs cs:List (Nat×V)}{o oL:Obj}{y:V}{j:Int}{M:Model}{EE:Value->Shared->Prop}{t as:List Nat}{ar:Arguments}{ks:List Int}{kvs:List (Int×Value)}{ts:List Tg}{tg:Expr}{fd:Fd}
def Tw:(gR.all λx=>!(Str.ofString x == ("__debug__":Str)) && !(Str.ofString x == ("__classdict__":Str)))=true:=by decide +kernel
def A3(k:Nat):(nm k == ("__debug__":Str))=false/\(nm k == ("__classdict__":Str))=false:=by
 rcases iX k 125 with h | h
 ·have hk:k<gR.length:=by rw[uL];show h
  have h1:=bR.mp Tw gR[k] (List.getElem_mem hk);rw[uM h,oq,bL hk]
  simpa using h1
 ·rw[uN h];have z1:(Str.ofString "__debug__").cps.size=9:=by decide +kernel
  have z2:(Str.ofString "__classdict__").cps.size=13:=by decide +kernel
  constructor
  ·rw[mX];intro e;have:=(congrArg (λx:Str=>x.cps.size) e).trans z1;simp at this;show⟨"_,125.A,A~9;0,1,1",h,this⟩
  ·rw[mX];intro e;have:=(congrArg (λx:Str=>x.cps.size) e).trans z2;simp at this;show⟨"_,125.A,A~13;0,1,1",h,this⟩
def eE.eval{E:Value->Shared->Prop}{f:Act}{k:Nat}{pos:Pos}{Q:Value->Shared->Prop}(st:dZ f sc)(h:eE s.heap f.env (nm k) v)(q:Q v s) :
  wpAny (model J w) A (eval (.Name (nm k) pos) f.env) Q E s:=by
 have hk:f.env.scope.kind=.function:=by rw[st.se];show st.kind
 rcases h with⟨hl,m,hn,hv⟩ | ⟨hl,c,hc,hv⟩
 ·show wpAny_Name (wpAny_loadName_local hk hl hn hv q) (A3 k).1
 ·rcases hl with hl | hl
  ·show wpAny_Name (wpAny_loadName_cell hk hl hc hv q) (A3 k).1
  ·show wpAny_Name (wpAny_loadName_free hk hl hc hv q (A3 k).2) (A3 k).1
theorem DX{x:Nat}{ex:Expr}(h:ay sc (.v x) ex=true):∃pos,ex=.Name (nm x) pos/\fW sc x (nm x)=true:=
 bx h λ_ p h=>fe h λh=>⟨p,rfl,h⟩
def KG{f:Act}{x:Nat}{n:Str}(st:dZ f sc)(h:fW sc x n=true):rW f.env (nm x)=true:=by
 unfold fW at h;rw[ba] at h;have e:=bq.mp h.1;subst e;unfold rW Env.kindOf;rw[st.se];show h.2
def Tz(x:Nat):SE (.v x):=by
 intros;intro n c ex ak Q X hw;obtain⟨pos,rfl,hv⟩:=DX ak;have aU:(match lk m x with | some (.bA _ _ _)=>False | some v=>Q v Y | Option.none=>False):=hw
 cases hl:lk m x with
 |none=>rw[hl] at aU;show aU.elim
 |some v=>
  rw[hl] at aU;have L:=c.lv.loc x v (KG c.st hv) hl;clear hl;cases v with
  |bA p b cs=>show aU.elim
  |_=>obtain⟨rv,h1,h2⟩:=L;show h1.eval c.st ⟨_,Y,h2,aU,c.at_⟩
def TB:SE .cN:=by
 intros;intro n c ex ak Q X hw;show fX ak λ_ _ _ h=>DF h (wpAny_Constant_none ⟨_,Y,.none,hw,c.at_⟩)
def TC(b:Bool):SE (.cB b):=by
 intros;intro n c ex ak Q X hw;show fX ak λ_ _ _ h=>DB h λ_ h=>DC h (wpAny_Constant_bool ⟨_,Y,.bool b,hw,c.at_⟩)
def KH(k:Nat):SE (.cS k):=by
 intros;intro n c ex ak Q X hw;show fX ak λ_ _ _ h=>rL h λ_ h=>fZ h (wpAny_Constant_str ⟨_,Y,.str k _,hw,c.at_.toks⟩)
def TF(i:Int):SE (.cI i):=by
 intros;intro n c ex ak Q X hw;rcases kK.mp ak with h | h
 ·exact fX h λ_ _ _ h=>rK h λd h=>?_;rw[<-kG h];show wpAny_Constant_int ⟨_,Y,.int i _,hw,c.at_.toks⟩
 ·exact oB h λ_ _ _ h=>cH h λho h=>gT ho (fX h λ_ _ _ h=>rK h λd h=>?_);rw[kG h] at hw;show wpAny_UnaryOp (wpAny_Constant_int (neg_int ⟨_,Y,.int _ _,hw,c.at_.toks.toks⟩))
def KJ{f:Act}{x:Str}(st:dZ f sc)(h:AJ sc x=true):f.env.kindOf x=some .globalImplicit:=by
 unfold Env.kindOf;rw[st.se];rcases oz h with⟨_,h⟩ | ⟨_,h⟩ | ⟨_,h⟩ | h
 ·cases h
 ·cases h
 ·cases h
 ·show h.1
def KL{g:Str}{a:Nat}(h:jT sc g a=true):AJ sc g=true/\kR g=some (.ref a):=by
 unfold jT at h;rw[ba] at h;exact⟨h.1,?_⟩;have h2:=h.2;split at h2
 ·rename_i b e;rw[e,nq h2]
 ·cases h2
def TG:(iU.all λe=>!(Str.ofString e.1 == ("__debug__":Str)) && !(Str.ofString e.1 == ("super":Str)))=true:=by decide +kernel
def TH{g:Str}(e:kR g=some v):(g == ("__debug__":Str))=false/\(g == ("super":Str))=false:=by
 unfold kR at e;cases hf:iU.find? λe=>Str.ofString e.1 == g with
 |none=>nomatch hf,e
 |some z=>
  have h1:=bR.mp TG z (List.mem_of_find?_eq_some hf);have h2:=List.find?_some hf;rw[bq.mp h2] at h1
  simpa using h1
def uR{E:Value->Shared->Prop}{f:Act}{g:Str}{a:Nat}{pos:Pos}{Q:Value->Shared->Prop}(cx:Cx w bz)(st:dZ f sc)(k:bz.StaysIn s.heap)(h:jT sc g a=true)(q:Q (.ref a) s) :
  wpAny (model J w) A (eval (.Name g pos) f.env) Q E s:=by
 obtain⟨hg,hv⟩:=KL h;obtain⟨mg,h1,_⟩:=cx.gl;have hk:f.env.scope.kind=.function:=by rw[st.se];show st.kind
 show Name_function_global hk (KJ st hg) (loadGlobal_global (env:=f.env) (by rw[st.gl];show h1.keeps k) (mg_of cx.k h1 (Kz hv)) q) (TH hv).1
def uS{E:Value->Shared->Prop}{f:Act}{g:Str}{b:String}{pos:Pos}{Q:Value->Shared->Prop}(cx:Cx w bz)(st:dZ f sc)(k:bz.StaysIn s.heap)(h:jt sc g b=true)
  (hb:bootBuiltins (Str.ofString b)=some v) (hn:(Str.ofString b == ("__name__":Str))=false) (hd:(Str.ofString b == ("__debug__":Str))=false) (q:Q v s) :
  wpAny (model J w) A (eval (.Name g pos) f.env) Q E s:=by
 unfold jt at h;rw[ba,ba] at h;obtain⟨⟨hg,he⟩,hv⟩:=h;have e:=bq.mp he;subst e;have jv:kR (Str.ofString b)=none:=Option.isNone_iff_eq_none.mp hv;obtain⟨mg,h1,_⟩:=cx.gl;obtain⟨mb,h2,h3⟩:=cx.bi;have hk:f.env.scope.kind=.function:=by rw[st.se];show st.kind
 have hV:Str.ofString b≠"__name__":=mX.mp hn;show Name_function_global hk (KJ st hg) (loadGlobal_builtin (env:=f.env) (by rw[st.gl];show h1.keeps k) (mg_none_of cx.k h1 (Ts jv hV)) (by rw[st.bi];show h2.keeps k) ((h3 _ hV).trans hb) q) hd
theorem Cn.stays{F:bu}{f:Act}{s0:Shared}(c:Cn J w bz F W A f sc m Y0 s0 Y s n):bz.StaysIn s.heap:=c.at_.2.1.stays
def TJ(a:Nat):SE (.glob a):=by
 intros;intro n c ex ak Q X hw;show bx ak λ_ _ h=>uR c.cx c.st c.stays h ⟨_,Y,.ref a,hw,c.at_⟩
def BE.from{F:bu}{fl:List PySem.Env}{Y1:So}{s0 s1:Shared}{X:Nat->So->Prop}{e:Value}{s':Shared}(a:At J w bz nil Y0 s0 Y1 s1)(x:BE J w bz F fl Y1 s1 X e s'):BE J w bz F fl Y0 s0 X e s':=by
 obtain⟨k,Y',s2,h1,h2,h3⟩:=x;show⟨k,Y',s2,h1,a.trans h2,h3⟩
theorem SE.then{e:E}(he:SE e){F:bu}{f:Act}{s0:Shared}(c:Cn J w bz F W A f sc m Y0 s0 Y s n){ex:Expr}(ak:ay sc e ex=true){X:Nat->So->Prop}(hw:wE W e m Q X Y){P:Value->Shared->Prop}
  (h:∀v x Y' s',VR v x->Q x Y'->Cn J w bz F W A f sc m Y0 s0 Y' s' n->P v s'):wpAny (model J w) A (eval ex f.env) P (BE J w bz F f.fl Y0 s0 X) s:=
 bB (he c.here ak hw) (λv s' zz=>by obtain⟨x,Y',h1,h2,h3⟩:=zz;show h v x Y' s' h1 h2 (c.go h3)) λ_ _ z=>z.from c.at_
theorem SB.then{e:E}(he:SB e){F:bu}{f:Act}{s0:Shared}(c:Cn J w bz F W A f sc m Y0 s0 Y s n){ex:Expr}(ak:ay sc e ex=true){K:Bool->So->Prop}{X:Nat->So->Prop}(hw:wB W e m (wE W e m) K X Y){P:Bool->Shared->Prop}
  (h:∀b Y' s',K b Y'->Cn J w bz F W A f sc m Y0 s0 Y' s' n->P b s'):wpAny (model J w) A (isTrue ex f.env (eval ex f.env)) P (BE J w bz F f.fl Y0 s0 X) s:=
 bB (he c.here ak hw) (λb s' zz=>by obtain⟨Y',h1,h2⟩:=zz;show h b Y' s' h1 (c.go h2)) λ_ _ z=>z.from c.at_
theorem iM.then(he:iM l){F:bu}{f:Act}{s0:Shared}(c:Cn J w bz F W A f sc m Y0 s0 Y s n){es:List Expr}{pos:Pos}(ak:bO sc l es=true){Q:List V->So->Prop}{X:Nat->So->Prop}(hw:wEs W l m Q X Y){P:List Value->Shared->Prop}
  (h:∀vs xs Y' s',aF vs xs->Q xs Y'->Cn J w bz F W A f sc m Y0 s0 Y' s' n->P vs s'):wpAny (model J w) A (spliced (backTo pos (starEach es f.env))) P (BE J w bz F f.fl Y0 s0 X) s:=
 bB (he c.here ak hw) (λv s' zz=>by obtain⟨x,Y',h1,h2,h3⟩:=zz;show h v x Y' s' h1 h2 (c.go h3)) λ_ _ z=>z.from c.at_
def KN:iM []:=by
 intros;intro n c es pos ak Q X hw;show aC ak (spliced_nil ⟨_,Y,.nil,hw,c.at_⟩)
def TK{e:E}(he:SE e)(hl:iM l):iM (e::l):=by
 intros;intro n c es pos ak Q X hw;have aU:wE W e m (λv s=>wEs W l m (λvs s=>Q (v::vs) s) X s) X Y:=hw;show dA ak λex r h3 h1 h2=>spliced_more (he.then c h1 aU λv x Y' s' hv hq c'=>hl.then c' h2 hq λvs xs eI fk jw bG a8=>⟨_,eI,.cons hv jw,bG,a8.at_⟩) (pY h3)
def A4{x:V}{K:Bool->Prop}(h:VR v x)(t:truth x K):∃b,v=.bool b/\x=.bool b/\K b:=by
 cases h with
 |bool b=>show⟨b,rfl,rfl,t⟩
 |_=>show t.elim
def plainT(e:Expr):Bool:=ns 0 e && ns 5 e && ns 15 e && !(xU e λo _ _=>DE o)
def TL{ex:Expr}{env:PySem.Env}{whole:Sem Value}(h:plainT ex=true):isTrue ex env whole=(do let v <-whole;standAt ex.pos;holding [v] (truthy v)):=by
 induction ex using Expr.casesOn with
 |UnaryOp op x pos=>induction op using UnaryOp.casesOn<;>first | rfl | show(aZ h).elim
 |_=>first | rfl | show(aZ h).elim
def KQ{e:E}(he:SE e)(hp:∀sc ex,ay sc e ex=true->plainT ex=true)(hb:∀W m K X Y,wB W e m (wE W e m) K X Y=wE W e m (λv s=>truth v λt=>K t s) X Y):SB e:=by
 intros;intro n c ex ak K X hw;rw[hb] at hw;exact isTrue_plain (he.then c ak hw λv x Y' s' hv hq c'=>?_) (TL (hp sc ex ak));obtain⟨b,rfl,_,hk⟩:=A4 hv hq;show wpAny_truthy_bool ⟨Y',hk,c'.at_⟩
theorem KR{a:E}{ex:Expr}(h:ay sc (.not a) ex=true):∃x pos,ex=.UnaryOp .Not x pos/\ay sc a x=true:=
 oB h λ_ x p h=>cH h λi h=>oC i ⟨x,p,rfl,h⟩
def TN{E:Value->Shared->Prop}{b:Bool}{Q:Value->Shared->Prop}(h:Q (.bool (!b)) s):wpAny (model J w) A (unaryOp .Not (.bool b)) Q E s:=by
 show wpAny _ A (do return .bool (!(<-truthy (.bool b)))) Q E s;show wb (wpAny_truthy_bool (aL h))
def TP{a:E}(ha:SE a):SE (.not a):=by
 intros;intro n c ex ak Q X hw;obtain⟨x,pos,rfl,ho⟩:=KR ak;exact wpAny_UnaryOp (ha.then c ho hw λv x Y' s' hv hq c'=>?_);obtain⟨b,rfl,_,hk⟩:=A4 hv hq;show TN ⟨_,Y',.bool _,hk,c'.at_⟩
def TQ{a:E}(ha:SB a):SB (.not a):=by
 intros;intro n c ex ak K X hw;obtain⟨x,pos,rfl,ho⟩:=KR ak;have aU:wB W a m (wE W a m) (λt s=>K (!t) s) X Y:=hw;show isTrue_not (ha.then c ho aU λb Y' s' hk c'=>⟨Y',hk,c'.at_⟩)
theorem KS{a d:E}{ex:Expr}(h:ay sc (.fG a b d) ex=true):∃x y z pos,ex=.IfExp x y z pos/\ay sc a x=true/\ay sc b y=true/\ay sc d z=true:=
 Dt h λx y z p h=>dN h λa b c=>⟨x,y,z,p,rfl,a,b,c⟩
def TS{a d:E}(ha:SB a)(hb:SE b)(hd:SE d):SE (.fG a b d):=by
 intros;intro n c ex ak Q X hw;obtain⟨x,y,z,pos,rfl,h1,h2,h3⟩:=KS ak;exact wpAny_IfExp (ha.then c h1 hw λt Y' s' hk c'=>?_);cases t with
 |true=>show hb c' h2 hk
 |false=>show hd c' h3 hk
def TV{a d:E}(ha:SB a)(hb:SB b)(hd:SB d):SB (.fG a b d):=by
 intros;intro n c ex ak K X hw;obtain⟨x,y,z,pos,rfl,h1,h2,h3⟩:=KS ak;have aU:wB W a m (wE W a m) (λt s=>match t with | true=>wB W b m (wE W b m) K X s | false=>wB W d m (wE W d m) K X s) X Y:=hw
 exact isTrue_IfExp (ha.then c h1 aU λt Y' s' hk c'=>?_);cases t with
 |true=>show hb c' h2 hk
 |false=>show hd c' h3 hk
theorem KV{a:E}{ex:Expr}(h:ay sc (.and a b) ex=true):∃x y pos,ex=.BoolOp .And [x,y] pos/\ay sc a x=true/\ay sc b y=true:=
 wA h λ_ _ p h=>eZ h λx y h=>dN h λi a b=>oE i ⟨x,y,p,rfl,a,b⟩
theorem KW{a:E}{ex:Expr}(h:ay sc (.or a b) ex=true):∃x y pos,ex=.BoolOp .Or [x,y] pos/\ay sc a x=true/\ay sc b y=true:=
 wA h λ_ _ p h=>eZ h λx y h=>dN h λi a b=>rP i ⟨x,y,p,rfl,a,b⟩
def TX{a:E}(ha:SE a)(hb:SE b):SE (.and a b):=by
 intros;intro n c ex ak Q X hw;obtain⟨x,y,pos,rfl,h1,h2⟩:=KV ak;exact BoolOp_and (ha.then c h1 hw λv x Y' s' hv hq c'=>?_);obtain⟨t,rfl,rfl,hk⟩:=A4 hv hq;exact wpAny_truthy_bool ?_;cases t with
 |true=>show BoolOp_one (hb c' h2 hk)
 |false=>show⟨_,Y',hv,hk,c'.at_⟩
def TY{a:E}(ha:SE a)(hb:SE b):SE (.or a b):=by
 intros;intro n c ex ak Q X hw;obtain⟨x,y,pos,rfl,h1,h2⟩:=KW ak;exact BoolOp_or (ha.then c h1 hw λv x Y' s' hv hq c'=>?_);obtain⟨t,rfl,rfl,hk⟩:=A4 hv hq;exact wpAny_truthy_bool ?_;cases t with
 |true=>show⟨_,Y',hv,hk,c'.at_⟩
 |false=>show BoolOp_one (hb c' h2 hk)
def T1{a:E}(ha:SB a)(hb:SB b):SB (.and a b):=by
 intros;intro n c ex ak K X hw;obtain⟨x,y,pos,rfl,h1,h2⟩:=KV ak;have aU:wB W a m (wE W a m) (λt s=>match t with | true=>wB W b m (wE W b m) K X s | false=>K false s) X Y:=hw
 exact isTrue_and (ha.then c h1 aU λt Y' s' hk c'=>?_);cases t with
 |false=>show⟨Y',hk,c'.at_⟩
 |true=>
  exact isTrue_and (hb.then c' h2 hk λt Y' s' hk c'=>?_);cases t with
  |false=>show⟨Y',hk,c'.at_⟩
  |true=>show isTrue_and_nil ⟨Y',hk,c'.at_⟩
def T3{a:E}(ha:SB a)(hb:SB b):SB (.or a b):=by
 intros;intro n c ex ak K X hw;obtain⟨x,y,pos,rfl,h1,h2⟩:=KW ak;have aU:wB W a m (wE W a m) (λt s=>match t with | true=>K true s | false=>wB W b m (wE W b m) K X s) X Y:=hw
 exact isTrue_or (ha.then c h1 aU λt Y' s' hk c'=>?_);cases t with
 |true=>show⟨Y',hk,c'.at_⟩
 |false=>
  exact isTrue_or (hb.then c' h2 hk λt Y' s' hk c'=>?_);cases t with
  |true=>show⟨Y',hk,c'.at_⟩
  |false=>show isTrue_or_nil ⟨Y',hk,c'.at_⟩
theorem At.stays{s0:Shared}(a:At J w bz own Y0 s0 Y s):bz.StaysIn s.heap:=a.2.1.stays
def KX{vs:List V}{P:Prop}(h:few vs P):vs.length<900/\P:=by
 obtain⟨e,h⟩:=p8 h;show⟨by simp[Nat.blt] at e;show⟨"A>900,A.899",e⟩,h⟩
def qe(h:n<100000):n<=sizeLine:=by rw[sizeLine_eq];show⟨"A.16777216,A>100000",h⟩
theorem GE.list{s0:Shared}(a:At J w bz nil Y0 s0 Y s)(r:aF vs xs)(q:new (.lst xs) Q Y)(n:Nat)(hb:xs.length<=200000) :
  GE J w bz Y0 s0 Q (.ref s.heap.objs.size) { s with heap:=s.heap.push { cls:=.type "list",data:=.seq vs.toArray n},toks:=tk}:=
 ⟨_,_,.ref _,q _ (a.2.1.uQ),a.add (i5 _) rfl (λb o e=>cf _ e) (.lst (n:=n) (ik _ rfl) r hb)⟩
theorem GE.tup{s0:Shared}(a:At J w bz nil Y0 s0 Y s)(r:aF vs xs)(q:new (.tup xs) Q Y)(hb:xs.length<=200000) :
  GE J w bz Y0 s0 Q (.ref s.heap.objs.size) { s with heap:=s.heap.push { cls:=.type "tuple",data:=.seq vs.toArray},toks:=tk}:=
 ⟨_,_,.ref _,q _ (a.2.1.uQ),a.add (i5 _) rfl (λb o e=>cf _ e) (.tup ⟨_,ik _ rfl,rfl,_,rfl⟩ r hb)⟩
theorem T4{ex:Expr}(h:ay sc (.list l) ex=true):∃es pos,ex=.List es pos/\bO sc l es=true:=
 wF h λes p h=>⟨es,p,rfl,h⟩
theorem T5{ex:Expr}(h:ay sc (.tup l) ex=true):∃es k pos,ex=.Tuple es k pos/\bO sc l es=true:=
 lC h λes k p h=>⟨es,k,p,rfl,h⟩
def T6(hl:iM l):SE (.list l):=by
 intros;intro n c ex ak Q X hw;obtain⟨es,pos,rfl,ho⟩:=T4 ak;exact List_ (hl.then c ho hw λvs xs Y' s' hv hq c'=>?_);obtain⟨hn,hq⟩:=KX hq;show wpAny_newObj_type (GE.list (tk:=s'.toks) c'.at_ hv hq 0 ⟨"A.200000,A>900",hn⟩) (by show vs.toArray.size<=sizeLine;rw[sz,hv.len];show qe ⟨"A>100000,A>900",hn⟩)
def T7(hl:iM l):SE (.tup l):=by
 intros;intro n c ex ak Q X hw;obtain⟨es,k,pos,rfl,ho⟩:=T5 ak;exact Tuple_ (hl.then c ho hw λvs xs Y' s' hv hq c'=>?_);obtain⟨hn,hq⟩:=KX hq;show wpAny_newObj_type (GE.tup (tk:=s'.toks) c'.at_ hv hq ⟨"A.200000,A>900",hn⟩) (by show vs.toArray.size<=sizeLine;rw[sz,hv.len];show qe ⟨"A>100000,A>900",hn⟩)
theorem T8(h:Heap):(h.push { cls:=.type "dict",data:=.dict #[]}).DictAt (intKind J w) h.objs.size [] 0:=
 ⟨_,#[],ik _ rfl,⟨rfl,rfl,rfl⟩,rfl,λe he=>by simp at he,.nil,List.nodup_nil⟩
def T9:SE .dH:=by
 intros;intro n c ex ak Q X hw;have aU:newD [] Q Y:=hw;show wD ak λ_ _ _ h=>cH h λa b=>aC a (aC b (wpAny_Dict_empty ⟨_,_,.ref _,aU 0 _ c.at_.2.1.uQ,c.at_.add (tk:=s.toks) (i5 _) rfl (λb o e=>cf _ e) (.aP (T8 _) .nil)⟩))
def KY(P:Params){c k:Nat}(h:nA c k=true):attrOk (KF P) (c,k)=true:=by
 dsimp only[nA] at h;obtain⟨p,hp,h1⟩:=List.any_eq_true.mp h;rw[ba,ba] at h1;have h2:=bR.mp (Ta P) p hp;obtain⟨⟨e1,e2⟩,e3⟩:=h1;have e1:=nq e1;have e2:=nq e2;obtain⟨a,b⟩:=p;dsimp only at e1 e2;subst e1 e2;rcases kK.mp h2 with h2 | h2
 ·nomatch h2,e3
 ·show h2
def OR.wZ{a c:Nat}(x:OR J w h a (.inst c fs)):∃d es n sl,h.get? a=some (uP c d sl)/\h.get? d=some (dictOf es n)/\Fl es fs:=by
 cases x with | inst e ed f=>show⟨_,_,_,_,e,ed,f⟩
theorem DY{a c d:Nat}{sl:Array (Option Value)}{es:List DictEntry}(e:h.get? a=some (uP c d sl))(ed:h.get? d=some (dictOf es n)):InstAt h a (uP c d sl) (cD c) (some (dictOf es n)):=⟨e,rfl,rfl,ed⟩
def VR.in{x:V}(h:VR v x):handedIn v=true:=by cases h<;>rfl
def Ua{E:Value->Shared->Prop}{a k:Nat}{c:Nat}{x:V}{expr:Bool}{Q:Value->Shared->Prop}(cx:Cx w bz)(I:Inv J w bz Y s.heap)(ha:Y a=some (.inst c fs))(ho:nA c k=true)(hk:lk fs k=some x)
  (h:∀v,VR v x->Q v { s with toks:=s.toks+1}):wpAny (model J w) A (getAttr (.ref a) (nm k) expr) Q E s:=by
 obtain⟨d,es,n,sl,e,ed,f⟩:=(I.rep a _ ha).wZ;have F:=KY w.params ho;dsimp only[attrOk] at F;simp only[ba] at F;obtain⟨⟨⟨⟨⟨f1,f2⟩,f3⟩,f4⟩,f5⟩,f6⟩:=F;rcases f.get k with⟨v,x',h1,h2,h3⟩ | ⟨_,h2⟩
 ·nomatch hk,h2
  show get_value (cx.k.keeps I.stays) (DY e ed) (plainGet_of f1).1 (findObj_own f2 (bq.mp f3) rfl h1) h3.in (h v h3)
 ·nomatch hk,h2
def KZ{env:PySem.Env}{v:Expr}{whole:Sem Value}(h:nu v=true)(attr:Str):attributeBase v attr env whole=whole:=by
 induction v using Expr.casesOn
 case Call f a k p=>
  induction f using Expr.casesOn
  case Name id q=>
   induction a using List.casesOn
   ·induction k using List.casesOn
    ·show if_pos (by rw[show(id != ("super":Str))=true from h,Bool.true_or,Bool.true_or,Bool.true_or])
    ·rfl
   ·rfl
  all_goals rfl
 all_goals rfl
theorem Ub{a:E}{k:Nat}{ex:Expr}(h:ay sc (.attr a k) ex=true):∃v pos,ex=.Attribute v (nm k) pos/\ay sc a v=true/\nu v=true:=
 fY h λv _ p h=>dN h λa e u=>fZ e ⟨v,p,rfl,a,u⟩
def Uc{a:E}{k:Nat}(ha:SE a):SE (.attr a k):=by
 intros;intro n c ex ak Q X hw;obtain⟨v,pos,rfl,ho,hs⟩:=Ub ak;exact Attribute_any_ (ha.then c ho hw λv x Y' s' hv hq c'=>?_) (by rw[arm_eval_Attribute,KZ hs]);exact aM hq hv λb hq=>?_;obtain⟨cl,fs,hb,hq⟩:=DR hq;obtain⟨hk,hq⟩:=p8 hq;obtain⟨y,hl,hq⟩:=nz hq;rw[c'.wo.cu] at hk;show Ua c'.cx c'.at_.2.1 hb hk hl λu hu=>⟨y,Y',hu,hq,c'.at_.toks⟩
theorem aF.ints:∀{vs:List Value}{l:List Int},aF vs (l.map V.int)->IntsAre vs l
 |_,[],h=>by cases h;show .nil
 |_,i::l,h=>by
  cases h with | cons h t=>cases h with | int i u=>show .cons i u (aF.ints t)
theorem K0(h:aF vs xs):∀n,aF (List.replicate n vs).flatten (List.replicate n xs).flatten
 |0=>.nil
 |n+1=>by
  rw[List.replicate_succ,List.replicate_succ,List.flatten_cons,List.flatten_cons];show h.app (K0 h n)
def d6{a:Nat}(x:OR J w h a (.lst xs)):∃vs n,h.get? a=some (cR vs n)/\aF vs xs:=by
 cases x with | lst e v _=>show⟨_,_,e,v⟩
def lI{a:Nat}(x:OR J w h a (.tup xs)):∃vs,IsTup h a vs.toArray/\aF vs xs:=by
 cases x with | tup e v _=>show⟨_,e,v⟩
def Ud{a:Nat}(x:OR J w h a (.cO xs)):∃vs,h.IsList a vs.toArray/\aF vs xs:=by
 cases x with | cO e v _=>show⟨_,e,v⟩
def w0{a:Nat}(x:OR J w h a (.lst xs)):xs.length<=200000:=by cases x with | lst _ _ b=>show b
def K1{a:Nat}(x:OR J w h a (.tup xs)):xs.length<=200000:=by cases x with | tup _ _ b=>show b
def Ue{a:Nat}(x:OR J w h a (.cO xs)):xs.length<=200000:=by cases x with | cO _ _ b=>show b
theorem K3(xs:List V):∀n,(List.replicate n xs).flatten.length=xs.length * n
 |0=>rfl
 |n+1=>by rw[List.replicate_succ,List.flatten_cons,iK,K3 xs n,Nat.mul_succ];show⟨"A+B~B+A"⟩
def A5{a:Nat}(x:OR J w h a (.aP es ep)):∃ps,h.DictAt (intKind J w) a ps ep/\Kv ps es:=by
 cases x with | aP e v=>show⟨_,e,v⟩
def oI{a:Nat}(x:OR J w h a (.aP es ep)):∃ps,h.DictOf (intKind J w) a ps/\Kv ps es:=by
 obtain⟨ps,e,v⟩:=A5 x;show⟨ps,e.dictOf,v⟩
def Ug{E:Value->Shared->Prop}{l:Addr}{x:Int}{u:Tok}{Q:Value->Shared->Prop}(ho:s.heap.get? l=some (cR vs n))(oJ:0<=x)(oK:x<200)(dp:vs.length * x.toNat<200)
  (h:Q (.ref s.heap.objs.size) { s with heap:=s.heap.push (cR (List.replicate x.toNat vs).flatten 0)}):wpAny (model J w) A (binaryOp .Mult (.ref l) (.int x u)) Q E s:=by
 have DZ:vs.toArray.size * x.toNat<200:=by simpa using dp
 exact wpAny_binaryOp_repeat_ref (T:="list") (U:="int") (by decide) ⟨_,ho,rfl⟩ (λs'=>typeIs_int s' x u) noFill_list_mul F.fills_int_mul F.slot_int_rmul repeat_list F.slot_int_index.lookup
  (call_meets F.slot_int_rmul (typeIs_int s x u) F.entry_int_rmul (F.args_int_rmul_2 _ _) (lm_int_rmul_list_any x u l vs.toArray n none #[])
   ⟨ho,rfl,⟨_,ho,rfl⟩,call_meets F.slot_list_mul ⟨_,ho,rfl⟩ F.entry_list_mul (F.args_list_mul_2 _ _)
    (lm_list_mul_any l vs.toArray n none #[] x u (by simp[Builtin.List.listFitsIndex];show⟨dX (by decide) oJ,Int.lt_trans oK (by decide)⟩) (Nat.not_lt.mpr (Nat.le_trans (Nat.le_of_lt DZ) (by decide))) (by simp[Builtin.List.listTooLong,sizeLine];show⟨"A.16777216,A>200",dp⟩))
    ⟨ho,?_⟩⟩)
 rw[listMul_foldl_if];show h
def Uh{E:Value->Shared->Prop}{s0:Shared}{o:Ar}{p:Operator}{x:V}(a:At J w bz nil Y0 s0 Y s)(ho:Dp p o=true)(hv:VR v x)(hu:VR u y)(h:arith o x y Q Y) :
  wpAny (model J w) A (binaryOp p v u) (GE J w bz Y0 s0 Q) E s:=by
 rw[kG ho];cases o with
 |add=>show az h hv λi t h=>az h hu λj t' h=>P.add_int ⟨_,Y,.int _ _,h,a.toks⟩
 |sub=>show az h hv λi t h=>az h hu λj t' h=>P.sub_int ⟨_,Y,.int _ _,h,a.toks⟩
 |mul=>show az h hv λi t h=>az h hu λj t' h=>P.mul_int ⟨_,Y,.int _ _,h.2,a.toks⟩ (IntMulOk.of_left (intBits_le_64 (Int.neg_lt_of_neg_lt (Int.lt_trans (Int.lt_of_le_of_lt (Int.natAbs_neg i ▸ Int.le_natAbs) (Int.ofNat_lt.mpr h.1.1)) (by decide))) (Int.lt_trans (Int.lt_of_le_of_lt Int.le_natAbs (Int.ofNat_lt.mpr h.1.1)) (by decide))))
 |fdiv=>show az h hv λi t h=>az h hu λj t' h=>PyProof.Rows.floordiv_int (Int.ne_of_gt h.1.1) ⟨_,Y,.int _ _,h.2,a.toks⟩ (.inl (PyProof.noPylong_small (Int.ofNat_lt.mp (Int.lt_trans (Int.natAbs_of_nonneg (il h.1.1) ▸ h.1.2) (by decide)))))
 |mod=>show az h hv λi t h=>az h hu λj t' h=>PyProof.Rows.mod_int (Int.ne_of_gt h.1) ⟨_,Y,.int _ _,h.2,a.toks⟩
 |cat=>
  exact aM h hv λb h=>aM h hu λd h=>?_;obtain⟨xs,e1,h⟩:=kU h;obtain⟨ys,e2,h⟩:=kU h;obtain⟨vs,n1,g1,r1⟩:=d6 (a.2.1.rep _ _ e1);obtain⟨ws,n2,g2,r2⟩:=d6 (a.2.1.rep _ _ e2);exact P.add_list g1 g2 ?_ (by rw[sz,sz,r1.len,r2.len];show qe h.1);rw[List.append_toArray];show GE.list (tk:=s.toks) a (r1.app r2) h.2 0 (by rw[iK];have h1:xs.length+ys.length<100000:=h.1;show⟨"A+B.200000,A+B>100000",h1⟩)
 |rep=>
  exact aM h hv λb h=>az h hu λi t h=>?_;obtain⟨xs,e1,h⟩:=kU h;obtain⟨vs,n1,g1,r1⟩:=d6 (a.2.1.rep _ _ e1);show Ug g1 h.1.1 h.1.2.1 (by rw[r1.len];show h.1.2.2) (GE.list (tk:=s.toks) a (K0 r1 _) h.2 0 (by rw[K3];have:=h.1.2.2;show⟨"A.200000,A>200",h.1.2.2⟩))
theorem Ui{o:Ar}{a:E}{ex:Expr}(h:ay sc (.ar o a b) ex=true):∃l p r pos,ex=.BinOp l p r pos/\Dp p o=true/\ay sc a l=true/\ay sc b r=true:=
 wC h λl p r q h=>dN h λa b c=>⟨l,p,r,q,rfl,a,b,c⟩
def Uj{o:Ar}{a:E}(ha:SE a)(hb:SE b):SE (.ar o a b):=by
 intros;intro n c ex ak Q X hw;obtain⟨l,p,r,pos,rfl,h1,h2,h3⟩:=Ui ak;show wpAny_BinOp (ha.then c h2 hw λv x Y' s' hv hq c'=>hb.then c' h3 hq λu y eI fk hu bG a8=>Uh a8.at_ h1 hv hu bG)
def Uk(k:Nat):PySem.PyData.strOk (nm k)=true:=by
 have z:(gR.all λx=>PySem.PyData.strOk (Str.ofString x))=true:=by decide +kernel
 rcases iX k 125 with h | h
 ·have hk:k<gR.length:=by rw[uL];show h
  have h1:=bR.mp z gR[k] (List.getElem_mem hk);rw[uM h,oq,bL hk];show h1
 ·rw[uN h];show(List.replicate k 97).toArray.all (λn=>decide (n<0x110000))=true;rw[<-Array.all_toList];exact bR.mpr λx hx=>?_;have fj:x∈List.replicate k 97:=hx;rw[List.eq_of_mem_replicate fj];rfl
mutual
def Da.py:Da->PyData
 | .none=>.none
 | .bool b=>.bool b
 | .int i=>.int i
 | .str k=>.str (nm k)
 | .lst l=>.list (Da.jx l)
 | .tup l=>.tuple (Da.jx l)
def Da.jx:List Da->List PyData
 | []=>[]
 |d::l=>Da.py d::Da.jx l
end
theorem Rd.py(R:∀a o,Y a=some o->OR J w h a o){v:V}{d:Da}(r:Rd Y v d):∀{u:Value},VR u v->∃as,Reads h u d.py as:=
 Rd.rec (motive_1:=λv d _=>∀{u:Value},VR u v->∃as,Reads h u d.py as) (motive_2:=λvs ds _=>∀{us:List Value},aF us vs->∃as,ReadsAll h us (Da.jx ds) as)
  (λr=>by rw[r.uO];show⟨_,.none⟩) (λb {_} r=>by rw[r.DQ];show⟨_,.bool b⟩) (λi {_} r=>by obtain⟨t,rfl⟩:=r.wM;show⟨_,.int i _⟩) (λk {_} r=>by obtain⟨t,rfl⟩:=r.SJ;show⟨_,.str _ _⟩)
  (λ{_ _ _} e _ ih {_} r=>by
   rw[r.oG];obtain⟨vs,n,g,q⟩:=d6 (R _ _ e);obtain⟨as,z⟩:=ih q;show⟨_,.list g rfl rfl z⟩)
  (λ{_ _ _} e _ ih {_} r=>by
   rw[r.oG];obtain⟨vs,⟨o,g,hc,n,hd⟩,q⟩:=lI (R _ _ e);obtain⟨as,z⟩:=ih q;show⟨_,.tuple g hc hd z⟩)
  (λr=>by cases r;show⟨_,.nil⟩)
  (λ{_ _ _ _} _ _ i1 i2 {_} r=>by
   cases r with | cons r rs=>
   obtain⟨as,z⟩:=i1 r;obtain⟨bs,y⟩:=i2 rs;show⟨_,.cons z y⟩) r
mutual
theorem Da.lay:∀d:Da,d.py.canLay0=true
 | .none=>rfl
 | .bool b=>rfl
 | .int i=>rfl
 | .str k=>Uk k
 | .lst l=>Da.lays l
 | .tup l=>Da.lays l
theorem Da.lays:∀l:List Da,PyData.canLayAll0 (Da.jx l)=true
 | []=>rfl
 |d::l=>by
  show(PyData.canLay0 d.py && PyData.canLayAll0 (Da.jx l))=true;rw[Da.lay d,Da.lays l];rfl
end
mutual
theorem Da.depth:∀d:Da,d.py.depth=d.deep
 | .none=>rfl
 | .bool b=>rfl
 | .int i=>rfl
 | .str k=>rfl
 | .lst l=>by show PyData.depthAll (Da.jx l)+1=Da.iL l+1;rw[Da.D1 l]
 | .tup l=>by show PyData.depthAll (Da.jx l)+1=Da.iL l+1;rw[Da.D1 l]
theorem Da.D1:∀l:List Da,PyData.depthAll (Da.jx l)=Da.iL l
 | []=>rfl
 |d::l=>by show max (PyData.depth d.py) (PyData.depthAll (Da.jx l))=max d.deep (Da.iL l);rw[Da.depth d,Da.D1 l]
end
mutual
theorem Da.eqv:∀d e:Da,PyData.eqv d.py e.py=Da.eq d e
 | .none,e=>by cases e<;>rfl
 | .bool a,e=>by cases e<;>first | rfl | (show((if a then 1 else 0:Int) == _)=decide _;rfl)
 | .int a,e=>by cases e<;>first | rfl
 | .str a,e=>by
  cases e<;>first
   |rfl
   |(rename_i b
     show(nm a == nm b)=Nat.beq a b;cases q:Nat.beq a b with
     |true=>rw[nq q];simp
     |false=>simp only[mX];intro e;rw[rT e] at q;simp at q)
 | .lst l,e=>by cases e<;>first | rfl | (rename_i r;show Da.D2 l r)
 | .tup l,e=>by cases e<;>first | rfl | (rename_i r;show Da.D2 l r)
theorem Da.D2:∀l r:List Da,PyData.eqvAll (Da.jx l) (Da.jx r)=Da.eqs l r
 | [],[]=>rfl
 | [],_::_=>rfl
 |_::_,[]=>rfl
 |d::l,e::r=>by show(PyData.eqv d.py e.py && PyData.eqvAll (Da.jx l) (Da.jx r))=(Da.eq d e && Da.eqs l r);rw[Da.eqv d e,Da.D2 l r]
end
def K4{p':Program}{w':World}{a:Nat}{ps:List (Int×Value)}(x:h.DictOf (intKind J w) a ps):h.DictOf (intKind p' w') a ps:=by
 obtain⟨o,es,ep,h1,h2,h3,h4,h5,h6⟩:=x;exact⟨o,es,ep,h1,h2,h3,h4,?_,h6⟩;clear h6 h4 h3;generalize es.toList=l at h5;induction h5 with
 |nil=>show .nil
 |cons a b _ ih=>show .cons a b ih
def Inv.noSys(cx:Cx w bz)(I:Inv J w bz Y h){a:Nat}{o:O}(e:Y a=some o)(m:o.mut=true):(a == sysModules)=false:=by
 rw[mX];rintro rfl;obtain⟨ob,hb⟩:=cx.DW;show I.old _ _ hb (.inl ⟨o,e,m⟩)
def Kv.none{ps:List (Int×Value)}(h:Kv ps es){i:Int}(e:cq es i=Option.none):PySem.valueAt ps i=Option.none:=by
 induction h with
 |nil=>rfl
 |cons hv tl ih=>
  rename_i j v y ps es;dsimp only[cq] at e;unfold PySem.valueAt;by_cases hj:j=i
  ·nomatch if_pos hj,e
  ·rewrite [if_neg hj] at e
   rw[List.find?_cons];simp only[hj,decide_false];show ih e
def Ul(h:kL es){i:Int}{x:V}(e:cq es i=some x):∃j,x=.int j:=by
 induction es with
 |nil=>cases e
 |cons p r ih=>
  obtain⟨k,v⟩:=p;dsimp only[cq] at e;by_cases hk:k=i
  ·nomatch if_pos hk,e.symm;show h (k,x) (.head _)
  ·rewrite [if_neg hk] at e;show ih (λp hp=>h p (.tail _ hp)) e
def Um{kb:List (Int×Value)}{e:List (Int×V)}(hb:Kv kb e)(he:kL e){ka:List (Int×Value)}{d:List (Int×V)}(x:Kv ka d):kL d->∃r,KeqHits A s kb ka r/\(r=true↔∀p∈d,∃i,p.2=.int i/\cq e p.1=some (.int i)):=by
 induction x with
 |nil=>intro _;show⟨true,.nil,by simp⟩
 |@cons k v x ps es hv tl ih=>
  intro hd;obtain⟨r,h1,h2⟩:=ih λp hp=>hd p (.tail _ hp);obtain⟨i,hi⟩:=hd (k,x) (.head _);dsimp only at hi;subst hi;cases hv with
  |int i t=>
   cases q:cq e k with
   |none=>
    exact⟨false,.miss (hb.none q),by simp,λz=>?_⟩;obtain⟨j,_,z2⟩:=z (k,.int i) (.head _);dsimp only at z2
    nomatch q,z2
   |some y=>
    obtain⟨j,rfl⟩:=Ul he q;obtain⟨u,hu,hr⟩:=hb.at q;cases hr with
    |int j t'=>
     exact⟨(i == j) && r,.hit hu ((MeetsSeq.EqGives.int i j t t').at _ _) h1,?_⟩;rw[ba,h2,bq];constructor
     ·rintro⟨rfl,z⟩ p hp;rcases aO.mp hp with rfl | hp
      ·show⟨i,rfl,q⟩
      ·show z p hp
     ·intro z;exact⟨?_,λp hp=>z p (.tail _ hp)⟩;obtain⟨j',z1,z2⟩:=z (k,.int i) (.head _);dsimp only at z1 z2;cases z1
      rewrite [q] at z2;clear hd z;cases z2;rfl
def K5{vs:List V}{ds:List (List (Int×V))}(h:jR Y vs ds):vs.length=ds.length:=by
 induction h with
 |nil=>rfl
 |cons _ _ _ ih=>simp[ih]
def K6{vs:List V}{ds:List (List (Int×V))}(h:jR Y vs ds):∀{j:Nat}{d:List (Int×V)},ds[j]?=some d->∃a ep,vs[j]?=some (.ref a)/\Y a=some (.aP d ep)/\kL d:=by
 induction h with
 |nil=>intro j d e;simp at e
 |cons h1 h2 _ ih=>intro j d e;cases j with
  |zero=>simp at e;subst e;show⟨_,_,rfl,h1,h2⟩
  |succ j=>simp at e;obtain⟨a,ep,q⟩:=ih e;show⟨a,ep,by simpa using q⟩
def Un{a b:Nat}{d e:List (List (Int×V))}(cx:Cx w bz)(I:Inv J w bz Y s.heap)(hu:A.units+70<cLine)(ha:Y a=some (.lst xs))(hb:Y b=some (.lst ys))(hd:jR Y xs d)(he:jR Y ys e) :
  ∃r:Bool,(r=true↔d.length=e.length/\∀p∈d.zip e,ot p.1 p.2)/\(∀{E:Value->Shared->Prop}{Q:Value->Shared->Prop},Q (.bool r) s->wpAny (model J w) A (compareOp .Eq (.ref a) (.ref b)) Q E s)/\(∀{E:Value->Shared->Prop}{Q:Value->Shared->Prop},Q (.bool (!r)) s->wpAny (model J w) A (compareOp .NotEq (.ref a) (.ref b)) Q E s):=by
 obtain⟨vs,n1,g1,r1⟩:=d6 (I.rep _ _ ha);obtain⟨us,n2,g2,r2⟩:=d6 (I.rep _ _ hb);have l1:s.heap.IsList a vs.toArray:=⟨_,g1,rfl,_,rfl⟩;have l2:s.heap.IsList b us.toArray:=⟨_,g2,rfl,_,rfl⟩;have e1:=r1.len.trans (K5 hd);have e2:=r2.len.trans (K5 he);have w7:A.units<cLine:=⟨"A>B,A+70>B",hu⟩;by_cases hl:d.length=e.length
 ·have dp:vs.toArray.size=us.toArray.size:=by rw[sz,sz,e1,e2,hl]
  have key:∀j,∃q:Bool,(∀(h1:j<vs.toArray.size) (h2:j<us.toArray.size),SeqAt.EqAt A.in1 s vs.toArray[j] us.toArray[j] q)/\(∀x y,d[j]?=some x->e[j]?=some y->(q=true↔ot x y)):=by
   intro j;by_cases hj:j<d.length
   ·have D3:j<e.length:=hl ▸ hj;obtain⟨x,Uo,z1,z2,z3⟩:=K6 hd (bL hj);obtain⟨y,Uq,y1,y2,y3⟩:=K6 he (bL D3);obtain⟨v,v1,v2⟩:=r1.get z1;obtain⟨u,u1,u2⟩:=r2.get y1;cases v2;cases u2;obtain⟨ka,D4,A6⟩:=oI (I.rep _ _ z2);obtain⟨kb,kb1,kb2⟩:=oI (I.rep _ _ y2);obtain⟨r,q1,q2⟩:=Um (A:=A.in1.in1) (s:=s) kb2 y3 A6 z3;have sx:=I.noSys cx z2 rfl;have sy:=I.noSys cx y2 rfl;have hlen:(ka.length == kb.length)=((d[j]).length == (e[j]).length):=by rw[A6.len,kb2.len]
    by_cases uT:x=y
    ·subst uT
     rewrite [z2] at y2
     have D5:d[j]=e[j]:=by injection y2 with y2;injection y2
     have all:r=true:=q2.mpr λp hp=>by
      obtain⟨i,hi⟩:=z3 p hp;exact⟨i,hi,?_⟩;have nd:((d[j]).map (·.1)).Nodup:=A6.keys ▸ (let ⟨_,_,_,_,_,_,_,_,n⟩:=D4;n);rw[<-D5];clear q2 q1 hlen kb2 kb1 z2 y2 z3 y3 A6 D4 D5 z1 y1;generalize d[j]=dj at hp nd;induction dj with
      |nil=>cases hp
      |cons q r ih=>
       obtain⟨k,v⟩:=q;dsimp only[cq]
       rewrite [dU,bS] at nd
       rcases aO.mp hp with rfl | hp
       ·rw[if_pos rfl];show congrArg some hi
       ·rw[if_neg (λq=>nd.1 (bJ.mpr ⟨p,hp,q.symm⟩))];show ih hp nd.2
     exact⟨true,λh1 h2=>?_,λx' y' hx hy=>?_⟩
     ·have w1:vs.toArray[j]=.ref x:=by rw[List.getElem_toArray];show(rC.mp v1).2
      have w2:us.toArray[j]=.ref x:=by rw[List.getElem_toArray];show(rC.mp u1).2
      rw[w1,w2];show SeqAt.EqAt.same _
     ·rewrite [bL hj] at hx
      rewrite [bL D3] at hy
      cases hx;cases hy
      show⟨λ_=>⟨by rw[D5],q2.mp all⟩,λ_=>rfl⟩
    ·exact⟨(d[j]).length == (e[j]).length && r,λh1 h2=>?_,λx' y' hx hy=>?_⟩
     ·have w1:vs.toArray[j]=.ref x:=by rw[List.getElem_toArray];show(rC.mp v1).2
      have w2:us.toArray[j]=.ref y:=by rw[List.getElem_toArray];show(rC.mp u1).2
      rw[w1,w2];exact SeqAt.EqAt.of_refs uT λp' w' E Q hq=>?_;show keq_eq (knd:=intKind p' w') sx sy (K4 D4) (K4 kb1) (by show A.units+1<cLine;show⟨"A+1>B,A+70>B",hu⟩) (λ_=>q1) (by rw[hlen];show hq)
     ·rewrite [bL hj] at hx
      rewrite [bL D3] at hy
      cases hx;cases hy
      rw[ba,bq,q2];rfl
   ·exact⟨true,λh1 _=>?_,λx y hx _=>?_⟩
    ·rewrite [sz,e1] at h1;show absurd h1 hj
    ·nomatch iV (Nat.not_lt.mp hj),hx
  let q:Nat->Bool:=λj=>Classical.choose (key j)
  have hq:∀j,(∀(h1:j<vs.toArray.size) (h2:j<us.toArray.size),SeqAt.EqAt A.in1 s vs.toArray[j] us.toArray[j] (q j))/\(∀x y,d[j]?=some x->e[j]?=some y->(q j=true↔ot x y)):=λj=>Classical.choose_spec (key j);exact⟨(List.range vs.toArray.size).all q,?_,λh=>(SeqAt.RcAt.lists l1 l2 dp w7 λj h1 h2=>(hq j).1 h1 h2) J w _ _ h,λh=>(SeqAt.RcNeAt.lists l1 l2 dp w7 λj h1 h2=>(hq j).1 h1 h2) J w _ _ h⟩;rw[bR];constructor
  ·intro z;exact⟨hl,λp hp=>?_⟩;obtain⟨j,hj,e'⟩:=List.getElem_of_mem hp
   rewrite [List.length_zip] at hj
   have j1:j<d.length:=⟨"A>B,A>C,C.B",hj,Nat.min_le_left _ _⟩;have j2:j<e.length:=⟨"A>B,C~B,A>C",hl,j1⟩
   rewrite [List.getElem_zip] at e'
   subst e';show((hq j).2 _ _ (bL j1) (bL j2)).mp (z j (List.mem_range.mpr (by rw[sz,e1];show j1)))
  ·rintro⟨_,z⟩ j hj;have j1:j<d.length:=by have:=List.mem_range.mp hj;rewrite [sz,e1] at this;show this
   have j2:j<e.length:=hl ▸ j1;exact((hq j).2 _ _ (bL j1) (bL j2)).mpr (z (d[j],e[j]) ?_);have jz:j<(d.zip e).length:=by rw[List.length_zip];show Nat.lt_min.mpr ⟨j1,j2⟩
   have:=List.getElem_mem jz
   rwa [List.getElem_zip] at this
 ·have dp:(vs.toArray.size != us.toArray.size)=true:=by rw[sz,sz,e1,e2];simpa using hl
  show⟨false,by simp[hl],λh=>(SeqAt.RcAt.lists_lengths l1 l2 dp w7) J w _ _ h,λh=>(SeqAt.RcNeAt.lists_lengths l1 l2 dp w7) J w _ _ h⟩
def A7{d:Da}(h:d.deep<20):SeqAt.shaped d.py=true:=by
 unfold SeqAt.shaped;rw[d.lay,d.depth,Bool.true_and];show dJ ⟨"A.64,A>20",h⟩
def Ur(J:Program)(w:World)(A:Around)(v u:Value)(s:Shared)(r:Bool):Prop:=(∀{E:Value->Shared->Prop}{Q:Value->Shared->Prop},Q (.bool r) s->wpAny (model J w) A (compareOp .Eq v u) Q E s)/\(∀{E:Value->Shared->Prop}{Q:Value->Shared->Prop},Q (.bool (!r)) s->wpAny (model J w) A (compareOp .NotEq v u) Q E s)
def D6(J:Program)(w:World)(A:Around)(v u:Value)(s:Shared)(b:Bool):Prop:=(∀{E:Value->Shared->Prop}{Q:Value->Shared->Prop},Q (.bool b) s->wpAny (model J w) A (compareOp .Is v u) Q E s)/\(∀{E:Value->Shared->Prop}{Q:Value->Shared->Prop},Q (.bool (!b)) s->wpAny (model J w) A (compareOp .IsNot v u) Q E s)
def A8{v:V}{d:Da}(h:CZ v=some d):Rd Y v d/\d.deep<20:=by
 have z:=Nat.succ_pos 19;induction v using V.casesOn
 ·obtain rfl:=dW h;show⟨.none,z⟩
 ·obtain rfl:=dW h;show⟨.bool _,z⟩
 ·obtain rfl:=dW h;show⟨.int _,z⟩
 ·obtain rfl:=dW h;show⟨.str _,z⟩
 ·cases h
 ·cases h
def Us{d e:Da}{b:Bool}(h:sD d e=some b):Da.eq d e=b:=by
 induction d using Da.casesOn<;>induction e using Da.casesOn<;>first | show dW h | cases h
def Ut{x:V}{b:Bool}(h:sEq x y=some b):∃d e,Rd Y x d/\Rd Y y e/\d.deep<20/\e.deep<20/\Da.eq d e=b:=by
 obtain⟨d,hd,h⟩:=Option.bind_eq_some_iff.mp h;obtain⟨e,he,h⟩:=Option.bind_eq_some_iff.mp h;show⟨d,e,(A8 hd).1,(A8 he).1,(A8 (Y:=Y) hd).2,(A8 (Y:=Y) he).2,Us h⟩
def Uu{x:V}{K:Bool->Prop}(h:eqs x y K Y):(∃d e,Rd Y x d/\Rd Y y e/\d.deep<20/\e.deep<20/\K (Da.eq d e))\/∃a b xs ys d e,x=.ref a/\y=.ref b/\Y a=some (.lst xs)/\Y b=some (.lst ys)/\jR Y xs d/\jR Y ys e/\((d.length=e.length/\∀p∈d.zip e,ot p.1 p.2)->K true)/\(¬ (d.length=e.length/\∀p∈d.zip e,ot p.1 p.2)->K false):=by
 have t:jr (sEq x y) K->∃d e,Rd Y x d/\Rd Y y e/\d.deep<20/\e.deep<20/\K (Da.eq d e):=λh=>by
  obtain⟨b,e,h⟩:=nz h;obtain⟨d,e,h1,h2,h3,h4,h5⟩:=Ut (Y:=Y) e;show⟨d,e,h1,h2,h3,h4,h5 ▸ h⟩
 cases x with
 |ref a=>cases y with
  |ref b=>show h
  |_=>show .inl (t h)
 |_=>show .inl (t h)
def K7{x:V}{K:Bool->Prop}(cx:Cx w bz)(I:Inv J w bz Y s.heap)(hA:A.units+70<cLine)(hv:VR v x)(hu:VR u y)(h:eqs x y K Y):∃r:Bool,K r/\Ur J w A v u s r:=by
 rcases Uu h with⟨d,e,rd,re,hd,he,hk⟩ | ⟨a,b,xs,ys,d,e,rfl,rfl,ha,hb,hd,he,k1,k2⟩
 ·obtain⟨as,z1⟩:=Rd.py I.rep rd hv;obtain⟨bs,z2⟩:=Rd.py I.rep re hu;show⟨_,hk,λq=>eq_dataH z1 z2 (A7 hd) (A7 he) ⟨"A+64>B,A+70>B",hA⟩ (by rw[Da.eqv];show q),λq=>ne_dataH z1 z2 (A7 hd) (A7 he) ⟨"A+64>B,A+70>B",hA⟩ (by rw[Da.eqv];show q)⟩
 ·rw[hv.oG,hu.oG];obtain⟨r,q1,q2,q3⟩:=Un (A:=A) cx I hA ha hb hd he;exact⟨r,?_,q2,q3⟩;clear q2 q3;cases r with
  |true=>show k1 (q1.mp rfl)
  |false=>show k2 λz=>by have:=q1.mpr z;cases this
def D6.pl{b c:Bool}(hp:plainIs v u=true)(e:(v == u)=c)(h:some c=some b):D6 J w A v u s b:=by
 rw[<-dW h,<-e];show⟨λq=>wpAny_is_plain hp q,λq=>wpAny_isNot_plain hp q⟩
def K8{o:Option O}(h:oy o=true):∃c fs,o=some (.inst c fs):=by
 induction o using Option.casesOn
 ·show(aZ h).elim
 ·rename_i o;induction o using O.casesOn<;>first | show⟨_,_,rfl⟩ | show(aZ h).elim
def K9{x:V}{b:Bool}(I:Inv J w bz Y s.heap)(hv:VR v x)(hu:VR u y)(h:same Y x y=some b):D6 J w A v u s b:=by
 cases x with
 |none=>
  rw[hv.uO];cases y with
  |none=>rw[hu.uO];show .pl rfl rfl h
  |ref a=>rw[hu.oG];show .pl rfl rfl h
  |int i=>obtain⟨t,rfl⟩:=hu.wM;show .pl rfl rfl h
  |bool d=>rw[hu.DQ];show .pl rfl rfl h
  |_=>cases h
 |int i=>obtain⟨t,rfl⟩:=hv.wM;cases y with
  |none=>rw[hu.uO];show .pl rfl rfl h
  |_=>cases h
 |bool d=>rw[hv.DQ];cases y with
  |none=>rw[hu.uO];show .pl rfl rfl h
  |_=>cases h
 |ref a=>
  rw[hv.oG];cases y with
  |none=>rw[hu.uO];show .pl rfl rfl h
  |ref a'=>
   rw[hu.oG];have h':(bif oy (Y a) && oy (Y a') then some (Nat.beq a a') else none)=some b:=h;cases z:oy (Y a) && oy (Y a') with
   |false=>nomatch z,h'
   |true=>
   rewrite [z] at h'
   have e3:=dW h';obtain⟨c,fs,e1⟩:=K8 (mW.mp z).1;obtain⟨c',fs',e2⟩:=K8 (mW.mp z).2;clear h h' z;obtain⟨d,es,n,sl,g,_⟩:=(I.rep _ _ e1).wZ;obtain⟨d',cJ,n',Km,g',_⟩:=(I.rep _ _ e2).wZ;cases q:Nat.beq a a' with
   |true=>
    rw[<-e3,q,nq q];show⟨λq=>wpAny_is_ref_self q,λq=>wpAny_isNot_ref_self q⟩
   |false=>
    have ne:a≠a':=λe=>by nomatch e,Nat.beq_refl,q
    rw[<-e3,q];show⟨λq=>kto_is g g' ne (λe=>by cases e) q,λq=>kto_isnot g g' ne (λe=>by cases e) q⟩
  |_=>cases h
 |_=>cases h
def Ld{l:List Int}{i:Int}:l.any (· == i)=l.contains i:=by
 induction l with
 |nil=>rfl
 |cons a r ih=>
  rw[List.any_cons,List.contains_cons,ih]
  congr 1
  show Bool.eq_iff_iff.mpr ⟨λh=>by rw[bq] at h ⊢;show h.symm,λh=>by rw[bq] at h ⊢;show h.symm⟩
def uU{E:Value->Shared->Prop}{o:Cm}{p:CmpOp}{x:V}{K:Bool->Prop}{Q:Value->Shared->Prop}(cx:Cx w bz)(I:Inv J w bz Y s.heap)(hA:A.units+70<cLine)(ho:oA p o=true)(hv:VR v x)(hu:VR u y)(h:cmp o x y K Y)(q:∀t,K t->Q (.bool t) s) :
  wpAny (model J w) A (compareOp p v u) Q E s:=by
 rw[kG ho];clear ho;cases o with
 |lt=>show az h hv λi t h=>az h hu λj t' h=>P.lt_int (q _ h)
 |le=>show az h hv λi t h=>az h hu λj t' h=>P.le_int (q _ h)
 |gt=>show az h hv λi t h=>az h hu λj t' h=>P.gt_int (q _ h)
 |ge=>show az h hv λi t h=>az h hu λj t' h=>P.ge_int (q _ h)
 |eq=>
  obtain⟨r,k,z⟩:=K7 cx I hA hv hu h;show z.1 (q _ k)
 |ne=>
  obtain⟨r,k,z⟩:=K7 (K:=λb=>K (!b)) cx I hA hv hu h;show z.2 (q _ k)
 |«is»=>
  obtain⟨b,e,h⟩:=nz h;show(K9 I hv hu e).1 (q _ h)
 |aX=>
  obtain⟨b,e,h⟩:=nz h;show(K9 I hv hu e).2 (q _ h)
 |og=>
  exact az h hv λi t h=>aM h hu λa h=>?_;obtain⟨_,e | e,l,rfl,hk⟩:=SQ h
  ·obtain⟨vs,n,g,r⟩:=d6 (I.rep _ _ e);show notin_list_ints (IsL.isList g) r.ints (by rw[Ld];show q _ hk)
  ·obtain⟨vs,g,r⟩:=lI (I.rep _ _ e);show notin_tuple_ints g r.ints (by rw[Ld];show q _ hk)
def A9{ex:Expr}{p:CmpOp}(h:ns 7 ex=true):behindInMarks p ex=false:=by
 induction ex using Expr.casesOn<;>first | rfl | show(aZ h).elim
theorem Le{o:Cm}{a:E}{ex:Expr}(h:ay sc (.cmp o a b) ex=true):∃l p r pos,ex=.Compare l [p] [r] pos/\oA p o=true/\ay sc a l=true/\ay sc b r=true/\ns 7 r=true:=
 rH h λl _ _ q h=>bp h λp h=>bp h λr h=>rM h λa b c d=>⟨l,p,r,q,rfl,a,b,c,d⟩
def Cn.room{F:bu}{f:Act}{s0:Shared}(c:Cn J w bz F W A f sc m Y0 s0 Y s n):A.units+80<cLine:=by
 have:=c.rm.units;show A.units+80<9900;show⟨"A+80>9900,A+40*(B+1)+100.9000",this⟩
def Uv{o:Cm}{a:E}(ha:SE a)(hb:SE b):SE (.cmp o a b):=by
 intros;intro n c ex ak Q X hw;obtain⟨l,p,r,pos,rfl,h1,h2,h3,h4⟩:=Le ak;show wpAny_Compare1 (ha.then c h2 hw λv x Y' s' hv hq c'=>hb.then c' h3 hq λu y eI fk hu bG a8=>
  uU a8.cx a8.at_.2.1 (by have:=a8.room;show⟨"A+70>B,A+80>B",this⟩) h1 hv hu bG λt ht=>⟨_,eI,.bool t,ht,a8.at_⟩) (A9 h4)
def Uw{o:Cm}{a:E}(ha:SE a)(hb:SE b):SB (.cmp o a b):=by
 intros;intro n c ex ak K X hw;obtain⟨l,p,r,pos,rfl,h1,h2,h3,h4⟩:=Le ak;have aU:wE W a m (λv s=>wE W b m (λw s=>cmp o v w (λt=>truth (.bool t) λt=>K t s) s) X s) X Y:=hw;show wpAny_isTrue_Compare1 (ha.then c h2 aU λv x Y' s' hv hq c'=>hb.then c' h3 hq λu y eI fk hu bG a8=>
  uU a8.cx a8.at_.2.1 (by have:=a8.room;show⟨"A+70>B,A+80>B",this⟩) h1 hv hu bG λt ht=>wpAny_truthy_bool ⟨eI,ht,a8.at_⟩) (A9 h4)
theorem Lf{o u:Cm}{a d:E}{ex:Expr}(h:ay sc (.gM o u a b d) ex=true):∃l p q r t pos,ex=.Compare l [p,q] [r,t] pos/\oA p o=true/\oA q u=true/\ay sc a l=true/\ay sc b r=true/\ay sc d t=true/\ns 7 t=true:=
 rH h λl _ _ z h=>eZ h λp q h=>eZ h λr t h=>rO h λa b c d e f=>⟨l,p,q,r,t,z,rfl,a,b,c,d,e,f⟩
theorem Ba{p q:CmpOp}{r t:Expr}(h:behindInMarks q t=false):lastMarks [p,q] [r,t]=false:=h
def Ux{o u:Cm}{a d:E}(ha:SE a)(hb:SE b)(hd:SE d):SE (.gM o u a b d):=by
 intros;intro n c ex ak Q X hw;obtain⟨l,p,q,r,t,pos,rfl,h1,qf,h2,h3,h4,h5⟩:=Lf ak;exact Compare_chain (ha.then c h2 hw λv x Y' s' hv hq c'=>?_) (Ba (A9 h5));exact chain_link (hb.then c' h3 hq λu y eI fk hu bG a8=>?_);exact uU a8.cx a8.at_.2.1 (by have:=a8.room;show⟨"A+70>B,A+80>B",this⟩) h1 hv hu bG λt ht=>wpAny_truthy_bool ?_;cases t with
 |false=>show⟨_,eI,.bool false,ht,a8.at_⟩
 |true=>show chain_last (hd.then a8 h4 ht λu' y' Y3 s3 w8 D7 c3=>
   uU c3.cx c3.at_.2.1 (by have:=c3.room;show⟨"A+70>B,A+80>B",this⟩) qf hu w8 D7 λt ht=>⟨_,Y3,.bool t,ht,c3.at_⟩)
def Uy{o u:Cm}{a d:E}(ha:SE a)(hb:SE b)(hd:SE d):SB (.gM o u a b d):=by
 intros;intro n c ex ak K X hw;obtain⟨l,p,q,r,t,pos,rfl,h1,qf,h2,h3,h4,h5⟩:=Lf ak;have aU:wE W a m (λv s=>wE W b m (λw s=>cmp o v w (λt=>match t with
  |true=>wE W d m (λz s=>cmp u w z (λt=>truth (.bool t) λt=>K t s) s) X s
  |false=>truth (.bool false) λt=>K t s) s) X s) X Y:=hw
 exact isTrue_chain (ha.then c h2 aU λv x Y' s' hv hq c'=>?_) (Ba (A9 h5));exact test_link (hb.then c' h3 hq λu y eI fk hu bG a8=>?_);exact uU a8.cx a8.at_.2.1 (by have:=a8.room;show⟨"A+70>B,A+80>B",this⟩) h1 hv hu bG λt ht=>wpAny_truthy_bool ?_;cases t with
 |false=>show⟨eI,ht,a8.at_⟩
 |true=>show test_last (hd.then a8 h4 ht λu' y' Y3 s3 w8 D7 c3=>
   uU c3.cx c3.at_.2.1 (by have:=c3.room;show⟨"A+70>B,A+80>B",this⟩) qf hu w8 D7 λt ht=>wpAny_truthy_bool ⟨Y3,ht,c3.at_⟩)
def Lg{i:Int}{x:V}(h:ix xs i=some x):∃j,seqIndex? i xs.length=some j/\xs[j]?=some x/\-(xs.length:Int)<=i/\i<xs.length/\(0<=i->j=i.toNat)/\(¬ 0<=i->j=(i+xs.length).toNat):=by
 unfold ix at h;unfold seqIndex?;split at h
 ·rename_i h0;have hj:=(rC.mp h).1;exact⟨i.toNat,?_,h,dX (Int.neg_nonpos_of_nonneg (Int.natCast_nonneg _)) h0,⟨"a<'A,B>A,'B=a;1,1,-1",hj,bw ⟨"0:a,0:a",h0⟩⟩,λ_=>rfl,λz=>absurd (by assumption) z⟩;have c:((0<=(if i<0 then i+(xs.length:Int) else i):Bool) && ((if i<0 then i+(xs.length:Int) else i)<(xs.length:Int):Bool))=true:=by
   rw[if_neg ⟨"!a<0,0:a",h0⟩];rw[ba];show⟨dJ h0,dJ ⟨"a<'A,B>A,'B=a;1,1,-1",hj,bw ⟨"0:a,0:a",h0⟩⟩⟩
  dsimp only;rw[if_pos c,if_neg ⟨"!a<0,0:a",h0⟩]
 ·split at h
  ·rename_i h0 h1;have hj:=(rC.mp h).1;exact⟨(i+xs.length).toNat,?_,h,Int.sub_nonneg.mp (by rw[Int.sub_neg];show h1),⟨"a<'A,!0:a",h0⟩,λz=>absurd z h0,λ_=>rfl⟩;have c:((0<=(if i<0 then i+(xs.length:Int) else i):Bool) && ((if i<0 then i+(xs.length:Int) else i)<(xs.length:Int):Bool))=true:=by
    rw[if_pos ⟨"a<0,!0:a",h0⟩];rw[ba];show⟨dJ h1,dJ ⟨"a+'A<'A,!0:a",h0⟩⟩
   dsimp only;rw[if_pos c,if_pos ⟨"a<0,!0:a",h0⟩]
  ·cases h
def Uz{ex:Expr}{o i:Value}(h:ns 26 ex=true):subscripted ex false o i=operate [o,i] (getItem o i):=by
 induction ex using Expr.casesOn<;>first | rfl | show(aZ h).elim
def UA{E:Value->Shared->Prop}{s0:Shared}{x:V}{value slice:Expr}(a:At J w bz nil Y0 s0 Y s)(hv:VR v x)(hu:VR u y)(h:wm x y (λz=>Q z Y) Y)(hs:subscripted slice false v u=operate [v,u] (getItem v u)) :
  wpAny (model J w) A (subscriptTail value slice v u) (GE J w bz Y0 s0 Q) E s:=by
 revert hs;exact aM h hv λb h=>az h hu λi t h hs=>?_;rcases SN h with⟨xs,e,h⟩ | ⟨xs,e,h⟩ | ⟨es,ep,e,h⟩<;>obtain⟨z,hx,hk⟩:=nz h
 ·have R:=a.2.1.rep _ _ e;obtain⟨vs,n,g,r⟩:=d6 R;have le:=w0 R;have L:s.heap.IsList b vs.toArray:=IsL.isList g;obtain⟨j,h1,h2,h3,h4,h5,h6⟩:=Lg hx;obtain⟨v',g1,g2⟩:=r.get h2;have q:GE J w bz Y0 s0 Q v' s:=⟨_,Y,g2,hk,a⟩;exact tail_any L.typeIs PySem.F.slot_list_getitem.lookup ?_ hs;by_cases h0:0<=i
  ·have e1:i.toNat=j:=(h5 h0).symm;show wpAny_getItem_list L h0 (Int.lt_of_lt_of_le h4 (dX (Int.ofNat_le.mpr le) (by decide))) (by rw[e1];simpa using g1) q
  ·have e1:(i+(vs.toArray.size:Nat)).toNat=j:=by rw[sz,r.len];show(h6 h0).symm
   show wpAny_getItem_list_neg L ⟨"a<0,!0:a",h0⟩ (by rw[sz,r.len];show h3) (dX (dX (by decide) (Int.neg_le_neg (Int.ofNat_le.mpr le))) h3) (by rw[e1];simpa using g1) q
 ·have R:=a.2.1.rep _ _ e;obtain⟨vs,g,r⟩:=lI R;have le:=K1 R;obtain⟨j,h1,h2,h3,h4,h5,h6⟩:=Lg hx;obtain⟨v',g1,g2⟩:=r.get h2;show tail_any g.typeIs PySem.F.slot_tuple_getitem.lookup (PyProof.Rows.getItem_tuple g (dX (dX (by decide) (Int.neg_le_neg (Int.ofNat_le.mpr le))) h3) (Int.lt_of_lt_of_le h4 (dX (Int.ofNat_le.mpr le) (by decide))) (by rw[sz,r.len];show h1) (by simpa using g1) ⟨_,Y,g2,hk,a⟩) hs
 ·obtain⟨ps,g,r⟩:=oI (a.2.1.rep _ _ e);obtain⟨v',g1,g2⟩:=r.at hx;have M:=g.mapOf;show tail_any M.typeIs PySem.F.slot_dict_getitem.lookup (wpAny_getItem_of (intKind_is J w i t) M g1 ⟨_,Y,g2,hk,a.toks⟩) hs
theorem UB{a i:E}{ex:Expr}(h:ay sc (.idx a i) ex=true):∃v s pos,ex=.Subscript v s pos/\ay sc a v=true/\ay sc i s=true/\ns 26 s=true:=
 iw h λv s p h=>dN h λa b c=>⟨v,s,p,rfl,a,b,c⟩
def UC{a i:E}(ha:SE a)(hi:SE i):SE (.idx a i):=by
 intros;intro n c ex ak Q X hw;obtain⟨v,sl,pos,rfl,h1,h2,h3⟩:=UB ak;show Subscript_ (ha.then c h1 hw λv x Y' s' hv hq c'=>hi.then c' h2 hq λu y eI fk hu bG a8=>UA a8.at_ hv hu bG (Uz h3))
def SO(l:Option E):Prop:=match l with
 |none=>True
 |some e=>SE e
def SO.then{l:Option E}(he:SO l){F:bu}{f:Act}{s0:Shared}(c:Cn J w bz F W A f sc m Y0 s0 Y s n){ex:Option Expr}(ak:wJ sc l ex=true){X:Nat->So->Prop}(hw:wO W l m Q X Y){P:Value->Shared->Prop}
  (h:∀v x Y' s',VR v x->Q x Y'->Cn J w bz F W A f sc m Y0 s0 Y' s' n->P v s'):wpAny (model J w) A (evalPart ex f.env) P (BE J w bz F f.fl Y0 s0 X) s:=by
 cases l with
 |none=>show gG ak (by rw[evalPart_none];show aL (h _ _ Y s .none hw c))
 |some e=>show dM ak λx ak=>by rw[evalPart_some];show SE.then he c ak hw h
theorem UD{a:E}{lo hi:Option E}{ex:Expr}(h:ay sc (.gN a lo hi) ex=true):∃v l u p pos,ex=.Subscript v (.Slice l u none p) pos/\ay sc a v=true/\wJ sc lo l=true/\wJ sc hi u=true:=
 iw h λv _ q h=>rI h λl u _ p h=>rM h λa b c d=>gG d ⟨v,l,u,p,q,rfl,a,b,c⟩
def UE{i:Int}(h:0<=i):(max 0 (min i (n:Int))).toNat=min i.toNat n:=by
 obtain⟨a,rfl⟩:=Int.eq_ofNat_of_zero_le h;rcases Nat.le_total a n with q | q
 ·rw[Int.min_eq_left (Int.ofNat_le.2 q),Int.max_eq_right h];show(Nat.min_eq_left q).symm
 ·rw[Int.min_eq_right (Int.ofNat_le.2 q),Int.max_eq_right (Int.natCast_nonneg n)];show(Nat.min_eq_right q).symm
def UG{α}{l:List α}(i j:Nat):(l.drop (min i l.length)).take (min j l.length-min i l.length)=(l.take j).drop i:=by
 rw[List.drop_take];rcases Nat.le_total i l.length with q | q
 ·rw[Nat.min_eq_left q];rcases Nat.le_total j l.length with p | p
  ·rw[Nat.min_eq_left p]
  ·rw[Nat.min_eq_right p,List.take_of_length_le (by rw[List.length_drop];show ip _),List.take_of_length_le (by rw[List.length_drop];show Nat.sub_le_sub_right p i)]
 ·rw[Nat.min_eq_right q,List.drop_of_length_le q,List.drop_of_length_le (ip _),List.take_nil,List.take_nil]
def Li{i:Int}(h:0<=i):clipAt n i=min i.toNat n:=by
 unfold clipAt;rw[if_neg ⟨"!a<0,0:a",h⟩];show UE h
def pick_run{i:Int}(hi:0<=i)(hj:0<=j):slicePick vs.toArray (some i) (some j) none=((vs.take j.toNat).drop i.toNat).toArray:=by
 rw[slicePick_plain];exact congrArg List.toArray ?_;show(vs.drop (clipAt vs.toArray.size i)).take (clipAt vs.toArray.size j-clipAt vs.toArray.size i)=_;rw[Li hi,Li hj,sz];show UG _ _
theorem Lj(o o':Obj):Grows h ((h.push o).push o'):=λb ob e=>cf _ (cf _ e)
def Bb{E:Value->Shared->Prop}{s0:Shared}{b:Nat}{zs:List V}{value slice:Expr}{vl vu vk:Value}{lo hi st:Option Int}(a:At J w bz nil Y0 s0 Y s)
  (g:s.heap.get? b=some (cR vs n)) (pl:IsPart vl lo) (pu:IsPart vu hi) (pk:IsPart vk st) (h0:st≠some 0) (hp:slicePick vs.toArray lo hi st=ws.toArray) (r:aF ws zs) (hlen:vs.length<100000) (hz:zs.length<=200000) (q:new (.lst zs) Q Y)
  (hs:∀o i,subscripted slice false o i=operate [i,o] (getItem o i)\/subscripted slice false o i=operate [o,i] (getItem o i)) :
  wpAny (model J w) A (subscriptTail value slice (.ref b) (.ref s.heap.objs.size)) (GE J w bz Y0 s0 Q) E { s with heap:=s.heap.push { cls:=.type "slice",data:=.fields #[vl,vu,vk]}}:=by
 have g':(s.heap.push { cls:=.type "slice",data:=.fields #[vl,vu,vk]}).IsList b vs.toArray:=⟨_,cf _ g,rfl,_,rfl⟩
 have sl:(s.heap.push { cls:=.type "slice",data:=.fields #[vl,vu,vk]}).IsSliceOf s.heap.objs.size vl vu vk:=⟨_,ik _ rfl,rfl,rfl⟩
 have a':At J w bz nil Y0 s0 Y { s with heap:=s.heap.push { cls:=.type "slice",data:=.fields #[vl,vu,vk]}}:=a.grow (tk:=s.toks) λb ob e=>cf _ e
 have fin:GE J w bz Y0 s0 Q (.ref (s.heap.push { cls:=.type "slice",data:=.fields #[vl,vu,vk]}).objs.size) { s with heap:=(s.heap.push { cls:=.type "slice",data:=.fields #[vl,vu,vk]}).push { cls:=.type "list",data:=.seq (slicePick vs.toArray lo hi st)}}:=by
  rw[hp];show GE.list (tk:=s.toks) a' r q 0 hz
 rcases hs (.ref b) (.ref s.heap.objs.size) with hs | hs
 ·show tail_any (s:={ s with heap:=s.heap.push { cls:=.type "slice",data:=.fields #[vl,vu,vk]}}) g'.typeIs PySem.F.slot_list_getitem.lookup (wpAny_getItem_list_slice g' sl pl pu pk h0 fin (by rw[sz];show qe hlen)) hs
 ·show tail_any (s:={ s with heap:=s.heap.push { cls:=.type "slice",data:=.fields #[vl,vu,vk]}}) g'.typeIs PySem.F.slot_list_getitem.lookup (wpAny_getItem_list_slice g' sl pl pu pk h0 fin (by rw[sz];show qe hlen)) hs
def UH{a:E}{lo hi:Option E}(ha:SE a)(oJ:SO lo)(oK:SO hi):SE (.gN a lo hi):=by
 intros;intro n c ex ak Q X hw;obtain⟨v,l,u,p,pos,rfl,h1,h2,h3⟩:=UD ak;exact Subscript_ (ha.then c h1 hw λv x Y' s' hv hq c'=>wpAny_Slice (oJ.then c' h2 hq λvl xl Y1 s1 uV gV c1=>oK.then c1 h3 gV λvu xu Y2 s2 Lk d7 c2=>?_));rw[evalPart_none];exact aL ?_;clear hq;exact aM d7 hv λb d7=>?_;obtain⟨xs,e,d7⟩:=kU d7;obtain⟨vs,k,g,r⟩:=d6 (c2.at_.2.1.rep _ _ e);exact p6 d7 uV (λd7=>az d7 Lk λj _ zz=>?_) λi _ d7=>p6 d7 Lk (λzz=>?_) λj _ zz=>?_
 ·obtain⟨z1,z2,z3⟩:=zz;obtain⟨j',rfl⟩:∃j':Nat,j=j':=⟨j.toNat,⟨"a='A,'A=a;1,-1;1,1",bw ⟨"0:a,0:a",z1⟩⟩⟩;show Bb c2.at_ g .none (.int _ _) .none (λe=>by cases e) (slicePick_upto' _ _) (r.take j') (by rw[r.len];show z2) (by rw[List.length_take];have:xs.length<100000:=z2;show⟨"A.200000,B>100000,A.B",this,Nat.min_le_right _ _⟩) z3 λo i=>.inl rfl
 ·obtain⟨z1,z2,z3⟩:=zz;obtain⟨j',rfl⟩:∃j':Nat,i=j':=⟨i.toNat,⟨"a='A,'A=a;1,-1;1,1",bw ⟨"0:a,0:a",z1⟩⟩⟩;show Bb c2.at_ g (.int _ _) .none .none (λe=>by cases e) (slicePick_from' _ _) (r.drop j') (by rw[r.len];show z2) (by rw[List.length_drop];have:xs.length<100000:=z2;show⟨"A.200000,B>100000,A.B",this,Nat.sub_le _ _⟩) z3 λo i=>.inl rfl
 ·obtain⟨z0,z1,z2,z3⟩:=zz;show Bb c2.at_ g (.int _ _) (.int _ _) .none (λe=>by cases e) (pick_run z0 z1) ((r.take _).drop _) (by rw[r.len];show z2) (by rw[List.length_drop,List.length_take];have:xs.length<100000:=z2;show Nat.le_trans (Nat.sub_le _ _) (Nat.le_trans (Nat.min_le_right _ _) ⟨"A.200000,A>100000",this⟩)) z3 λo i=>.inl rfl
theorem UI{a:E}{ex:Expr}(h:ay sc (.jO a) ex=true):∃v k1 p1 p2 p pos,ex=.Subscript v (.Slice none none (some (.UnaryOp .USub (.Constant (.int 1) k1 p1) p2)) p) pos/\ay sc a v=true:=
 iw h λv _ q h=>rI h λ_ _ _ p h=>dM h λ_ h=>oB h λ_ _ p2 h=>fX h λ_ k p1 h=>rK h λj h=>rN h λa b c d e=>gG b (gG c (gT d (by rw[kG e];show⟨v,k,p1,p2,p,q,rfl,a⟩)))
def UJ{a:E}(ha:SE a):SE (.jO a):=by
 intros;intro n c ex ak Q X hw;obtain⟨v,k1,p1,p2,p,pos,rfl,h1⟩:=UI ak;exact Subscript_ (ha.then c h1 hw λv x Y' s' hv hq c'=>wpAny_Slice ?_);rw[evalPart_none,evalPart_some];exact aL (aL (wpAny_UnaryOp (wpAny_Constant_int (P.neg_int ?_))));exact aM hq hv λb hq=>?_;obtain⟨xs,e,hq⟩:=kU hq;obtain⟨vs,k,g,r⟩:=d6 (c'.at_.2.1.rep _ _ e);show Bb (s:={ s' with toks:=s'.toks+1+1}) c'.at_.toks g .none .none (.int _ _) (λe=>by cases e) (krv_pick _) r.rev (by rw[r.len];show hq.1) (by rw[List.length_reverse];have:xs.length<100000:=hq.1;show⟨"A.200000,A>100000",this⟩) hq.2 λo i=>.inr rfl
theorem kW.less{f:Act}(r:kW A f (n+1)):kW A f n:=⟨r.handled,r.frames,by have:=r.depth;show⟨"A+4*B+10.900,A+4*(B+1)+10.900",this⟩,by have:=r.units;show⟨"A+40*B+100.9000,A+40*(B+1)+100.9000",this⟩⟩
def noStar{env:PySem.Env}{pos:Pos}:∀{l:List E}{es:List Expr},bO sc l es=true->(backTo pos (starEach es env)).any (·.1)=false:=by
 intro zl;induction zl with
 |nil=>
  intro _ h;show aC h rfl
 |cons zx _ ih=>
  intro _ h;show dA h λ_ _ a _ h=>by rw[pY a];show ih h
def Ln{f:Value}{env:PySem.Env}{pos:Pos}{es:List Expr}{Q:Args->Shared->Prop}(ak:bO sc l es=true)
  (h:wpAny M A (spliced (backTo pos (starEach es env))) (λvs s'=>Q ⟨vs,[]⟩ s') EE s):wpAny M A (evalArgs f true (backTo pos (starEach es env)) []) Q EE s:=by
 unfold evalArgs;have z:=noStar (env:=env) (pos:=pos) ak;cases es with
 |nil=>
  exact wb (bB h (λvs s' h'=>?_) λ_ _ x=>x);exact fI ?_;show wb (aL (wb (aL (aL h'))))
 |cons e r=>
  have z':starEach (e::r) env=(false,eval e env)::starEach r env:=by
   cases l with
   |nil=>show(aZ ak).elim
   |cons _ _=>show dA (P:=λes=>es=e::r->starEach es env=(false,eval e env)::starEach r env) ak (λ_ _ a _ _ q=>by rw[pY a];injection q with q q';rw[q,q']) rfl
  rw[z'] at h ⊢;show evalArgs_plain h
theorem callArgs(hl:iM l){F:bu}{f:Act}{s0:Shared}(c:Cn J w bz F W A f sc m Y0 s0 Y s n){es:List Expr}{pos pos':Pos}{fv:Value}{first:List Value}(ak:bO sc l es=true){Q:List V->So->Prop}{X:Nat->So->Prop}(hw:wEs W l m Q X Y){P:Value->Shared->Prop}{KP:Heap->Prop}
  (hk:∀h,KP h->∃k,(k=Keeper.frame\/k=Keeper.machine\/k=Keeper.boundFrame)/\Looks (model J w) h (keeperOf fv) k)
  (h:∀vs xs Y' s',aF vs xs->Q xs Y'->Cn J w bz F W A f sc m Y0 s0 Y' s' n->At J w bz nil Y s Y' s'->KP s'.heap/\wpAny (model J w) A (call fv (first++vs)) P (BE J w bz F f.fl Y0 s0 X) s') :
  wpAny (model J w) A (callWith pos' fv first (backTo pos (starEach es f.env)) []) P (BE J w bz F f.fl Y0 s0 X) s:=
 callWith_of (P:=KP) (by rw[noStar ak];rfl) hk (Ln ak (bB (hl c.here ak hw) (λv s' zz=>by obtain⟨x,Y',h1,h2,h3⟩:=zz;show h v x Y' s' h1 h2 (c.go h3) h3) λ_ _ z=>z.from c.at_))
theorem Bc{r:FR}(h:fT[i]?=some r):r∈fT:=iW h
def D8{r:FR}(h:fT[i]?=some r):gF i=r.a:=by unfold gF;rw[h]
def D9(P:Params){r:FR}(h:r∈fT):isFn (KF P) (.ref r.a)=true/\keepIn (KF P) (.ref r.a)=true/\codeIn (KF P) (.ref r.cd) (Str.ofString r.ql)=true:=by
 have:=bR.mp (Td P) r h;unfold Kw at this;rw[ba,ba] at this;show⟨this.1.1,this.1.2,this.2⟩
theorem Cn.K{F:bu}{f:Act}{s0:Shared}(c:Cn J w bz F W A f sc m Y0 s0 Y s n):(KF w.params).In s.heap:=c.cx.k.keeps c.stays
def Ea{F:bu}{f:Act}{s0:Shared}(c:Cn J w bz F W A f sc m Y0 s0 Y s n){X:Nat->So->Prop}(hv:gH bz Y s.heap vs xs)(hw:W.call i xs Q X Y) :
  wpAny (model J w) A (call (.ref (gF i)) vs) (GE J w bz Y0 s0 Q) (BE J w bz F f.fl Y0 s0 X) s:=by
 obtain⟨r,hr⟩:=c.wo.rY _ _ _ _ _ hw;rw[D8 hr];show wpAny_call (c.wo.call i r hr A f vs xs Q X Y0 s0 Y s c.rm.less c.lv.cK c.at_ hv hw)
theorem UK{g:Nat}{ex:Expr}(h:ay sc (.call g l) ex=true):∃x p es pos,ex=.Call (.Name x p) es [] pos/\jT sc x (gF g)=true/\bO sc l es=true:=
 cG h λ_ es _ q h=>bx h λx p h=>dN h λa b c=>aC c ⟨x,p,es,q,rfl,a,b⟩
theorem nB{x:Str}{p pos:Pos}{es:List Expr}{env:PySem.Env}:eval (.Call (.Name x p) es [] pos) env=(do callWith pos (<-eval (.Name x p) env) [] (backTo pos (starEach es env)) []):=rfl
def Eb{g:Nat}{r:FR}(hr:fT[g]?=some r)(h:Heap)(X:(KF w.params).In h):∃k,(k=Keeper.frame\/k=Keeper.machine\/k=Keeper.boundFrame)/\Looks (model J w) h (keeperOf (.ref (gF g))) k:=by
 rw[D8 hr];show keeps_K (D9 w.params (Bc hr)).2.1 h X
def UL{g:Nat}(h:fT[g]?=none):gF g=0:=by unfold gF;rw[h]
def UM:(iU.all λe=>match e.2.2 with | .ref a=>!Nat.beq a 0 | _=>true)=true:=by decide +kernel
def UN{x:Str}{a:Nat}(h:kR x=some (.ref a)):a≠0:=by
 unfold kR at h;cases hf:iU.find? λe=>Str.ofString e.1 == x with
 |none=>nomatch hf,h
 |some z=>
  rw[hf] at h;have h1:=bR.mp UM z (List.mem_of_find?_eq_some hf);have h2:z.2.2=.ref a:=dW h;rw[h2] at h1;intro e;subst e;simp at h1
def Lp{x:Str}{g:Nat}(h:jT sc x (gF g)=true):∃r,fT[g]?=some r:=by
 cases hr:fT[g]? with
 |some r=>show⟨r,rfl⟩
 |none=>
  have h':=(KL h).2;rw[UL hr] at h';show absurd rfl (UN h')
def UO{g:Nat}(hl:iM l):SE (.call g l):=by
 intros;intro n c ex ak Q X hw;obtain⟨x,p,es,pos,rfl,h1,h2⟩:=UK ak;obtain⟨r,hr⟩:=Lp h1;rw[nB];exact wb (uR c.cx c.st c.stays h1 ?_);show callArgs (KP:=(KF w.params).In) hl c h2 hw (Eb hr) λvs xs Y' s' hv hq c' _=>⟨c'.K,Ea c' hv.vc hq⟩
theorem Lq{a b:Nat}(h:Nat.blt a b=true):a<b:=Nat.le_of_ble_eq_true h
theorem UQ{a:E}{k:Nat}{ex:Expr}(h:ay sc (.aJ a k l) ex=true):∃v ap es pos,ex=.Call (.Attribute v (nm k) ap) es [] pos/\ay sc a v=true/\bO sc l es=true/\(nu v && ap.endLine == pos.line)=true/\es.length<20:=
 cG h λ_ es _ q h=>fY h λv _ ap h=>rO h λa b c d e f=>fZ b (aC d ⟨v,ap,es,q,rfl,a,c,e,Lq f⟩)
def UT{env:PySem.Env}{pos:Pos}{es:List Expr}(h:bO sc l es=true)(hn:es.length<20):methodCallForm (es.length+([]:List Keyword).length) (backTo pos (starEach es env)) (backToKw pos (keywordEach [] env))=true:=by
 unfold methodCallForm;have h1:(backTo pos (starEach es env)).all (!·.1)=true:=by
  have:=noStar (env:=env) (pos:=pos) h;rw[List.all_eq_not_any_not]
  simpa using this
 rw[h1];show(true && true && decide (es.length+0+0<30))=true;simp;show⟨"A>30,A>20",hn⟩
def method_call{a:E}(ha:SE a){F:bu}{f:Act}{s0:Shared}(c:Cn J w bz F W A f sc m Y0 s0 Y s n){v:Expr}{x:Str}{ap pos:Pos}{es:List Expr}(h1:ay sc a v=true)(h2:bO sc l es=true)(h3:(nu v && ap.endLine == pos.line)=true)(h4:es.length<20)
  {X:Nat->So->Prop} (hw:wE W a m Q X Y) {P:Value->Shared->Prop}
  (h:∀o y Y' s',VR o y->Q y Y'->Cn J w bz F W A f sc m Y0 s0 Y' s' n->∀pl,wpAny (model J w) A (getMethod o x pl) (λfx s2=>wpAny (model J w) A (callWith pos fx.1 fx.2 (backTo pos (starEach es f.env)) []) P (BE J w bz F f.fl Y0 s0 X) s2) (BE J w bz F f.fl Y0 s0 X) s') :
  wpAny (model J w) A (eval (.Call (.Attribute v x ap) es [] pos) f.env) P (BE J w bz F f.fl Y0 s0 X) s:=by
 rw[arm_eval_Call,KZ (mW.mp h3).1];exact wb (ha.then c h1 hw λo y Y' s' ho hq c'=>wb (wpAny_standAt ?_));unfold methodCall;rw[UT h2 h4];have hp:methodCallPos true v f.env ap pos=pure pos:=by unfold methodCallPos;simp[(mW.mp h3).2]
 rw[hp];unfold calleeOf;exact wb (fI (bB (h o y Y' s' ho hq c' _) (λfx s2 z=>?_) λ_ _ z=>z));show wb (aL z)
def UU(P:Params){c k f:Nat}(h:(c,k,f)∈mT):plainGet (KF P) (cD c) (nm k)=true/\findIn (KF P) (.ref (cD c)) (nm k)=some (some (.ref (gF f)))/\isFn (KF P) (.ref (gF f))=true:=by
 have:=bR.mp (Tb P) _ h;unfold Kt at this;simp only[ba] at this;show⟨this.1.1,bq.mp this.1.2,this.2⟩
def UW:(mT.all λp=>(fT[p.2.2]?).isSome)=true:=by decide +kernel
def UX{a:E}{k:Nat}(ha:SE a)(hl:iM l):SE (.aJ a k l):=by
 intros;intro n c ex ak Q X hw;obtain⟨v,ap,es,pos,rfl,h1,h2,h3,h4⟩:=UQ ak;exact method_call ha c h1 h2 h3 h4 hw λo y Y' s' ho hq c' pl=>?_;exact aM hq ho λb hq=>?_;obtain⟨cl,fs,e,hq⟩:=DR hq;obtain⟨cL,hq⟩:=SR hq;obtain⟨fi,UY,hq⟩:=nz hq;have hm:=c'.wo.mt _ _ _ UY;obtain⟨f1,f2,f3⟩:=UU w.params hm;obtain⟨d,Lr,dn,sl,g1,g2,fl⟩:=(c'.at_.2.1.rep _ _ e).wZ;have gn:getL (nm k) Lr=some none:=by
  rcases fl.get k with⟨_,_,_,q,_⟩ | ⟨q,_⟩
  ·nomatch cL,q
  ·show q
 obtain⟨r,hr⟩:=Option.isSome_iff_exists.mp (bR.mp UW _ hm);exact method_fn c'.K (DY g1 g2) (plainGet_of f1).1 (plainGet_of f1).2 f2 (bq.mp f3) (by show(lookIn (nm k) (dictOf Lr dn)).map _=_;rw[lookIn_dict,gn];rfl) ?_;show callArgs (KP:=(KF w.params).In) hl c' h2 hq (Eb hr) λvs xs eI fk hv bG a8 _=>⟨a8.K,Ea a8 (.cons (VR.ref b).vc hv.vc) bG⟩
def UZ(P:Params){c f:Nat}(h:(c,f)∈kT):makesIn (KF P) (cD c)=true/\findIn (KF P) (.ref (cD c)) "__init__"=some (some (.ref (gF f)))/\isFn (KF P) (.ref (gF f))=true/\keepIn (KF P) (.ref (cD c))=true:=by
 have:=bR.mp (Tc P) _ h;unfold Ku at this;simp only[ba] at this;show⟨this.1.1.1,bq.mp this.1.1.2,this.1.2,this.2⟩
theorem U0{g:Nat}{ex:Expr}(h:ay sc (.new g l) ex=true):∃x p es pos,ex=.Call (.Name x p) es [] pos/\jT sc x (cD g)=true/\bO sc l es=true:=
 cG h λ_ es _ q h=>bx h λx p h=>dN h λa b c=>aC c ⟨x,p,es,q,rfl,a,b⟩
def kW.U1{f:Act}{args:List Value}{C:Nat}(r:kW A f (n+1)):kW (A.under (.builtin "type.__call__" ⟨.ref C::args,[]⟩)) f n:=by
 exact⟨r.handled,?_,?_,?_⟩
 ·show pushEnvs [] A.frames=_;show r.frames
 ·show A.depth+_+4 * n+10<=900;have:(Code.builtin "type.__call__" ⟨.ref C::args,[]⟩).weight<=2:=by show _+1+0+0<=2;show Nat.le_of_ble_eq_true rfl
  show⟨"A+B+4*C+10.900,B.2,A+4*(C+1)+10.900",this,r.depth⟩
 ·show A.units+_+40 * n+100<=9000;have:(Code.builtin "type.__call__" ⟨.ref C::args,[]⟩).cUnits<=10:=by show 1+3 * _<=10;show Nat.le_of_ble_eq_true rfl
  show⟨"A+B+40*C+100.9000,B.10,A+40*(C+1)+100.9000",this,r.units⟩
def U2:(kT.all λp=>(fT[p.2]?).isSome)=true:=by decide +kernel
theorem gH.U3{x:V}(a:VR v x)(b:aF vs xs):gH bz Y h (v::vs) (x::xs):=.cons a.vc b.vc
def U4{g:Nat}(hl:iM l):SE (.new g l):=by
 intros;intro n c ex ak Q X hw;obtain⟨x,p,es,pos,rfl,h1,h2⟩:=U0 ak;obtain⟨fi,hc,aU⟩:=nz hw;have hm:=c.wo.ctor _ _ hc;obtain⟨f1,f2,f3,f4⟩:=UZ w.params hm;obtain⟨r,hr⟩:=Option.isSome_iff_exists.mp (bR.mp U2 _ hm);rw[nB];exact wb (uR c.cx c.st c.stays h1 ?_);exact callArgs (KP:=(KF w.params).In) hl c h2 aU (λh X=>keeps_K f4 h X) λvs xs Y' s' hv hq c' _=>⟨c'.K,wpAny_call ?_⟩;obtain⟨hh,gg,dd,tt,oo⟩:=s';exact make_core (makes_of c'.K f1) (looks_findIn c'.K f2) (λself=>bind_fn c'.K self (bq.mp f3)) (.inl rfl) ?_;have hn:hh.get? (hh.objs.size+1)=none:=om (Nat.le_succ _);have a':=c'.at_.Kr (c:=g) (a:=hh.objs.size+1) (d:=hh.objs.size) (fs:=[]) (tk:=tt) (sl:=#[]) (es:=[]) (n:=0) hn (i5 hh) (Nat.succ_ne_self _) (Lj emptyDict (instObj (cD g) hh.objs.size))
  (by have:=ik (hh.push emptyDict) (o:=instObj (cD g) hh.objs.size) rfl;rwa [Heap.size_push] at this)
  (cf _ (ik _ rfl)) .nil
 have hs:Y' (hh.objs.size+1)=none:=c'.at_.2.1.unset hn;rw[D8 hr];have xa:=c'.wo.call fi r hr (A.under (.builtin "type.__call__" ⟨.ref (cD g)::vs,[]⟩)) f (.ref (hh.objs.size+1)::vs) (.ref (hh.objs.size+1)::xs) _ aN Y0 s0 _ ⟨(hh.push emptyDict).push (instObj (cD g) hh.objs.size),gg,dd,tt,oo⟩ c'.rm.U1
  (c'.lv.cK.step (h':=(hh.push emptyDict).push (instObj (cD g) hh.objs.size)) ?_) a' (.U3 (.ref _) hv) (hq _ hs)
 ·exact codeAny_mono xa λr s' z=>?_;rcases r with e | (v | _ | _ | _)
  ·show z.no
  ·show z.elim
  ·show z.elim
  ·show z.elim
  ·obtain⟨y,eI,q1,⟨rfl,q2⟩,q3⟩:=z;cases q1;show⟨rfl,_,eI,.ref _,q2,q3⟩
 ·have ar:At J w bz nil Y' ⟨hh,gg,dd,tt,oo⟩ Y' ⟨hh,gg,dd,tt,oo⟩:=.refl c'.at_.2.1;show(ar.Kr (c:=g) (a:=hh.objs.size+1) (d:=hh.objs.size) (fs:=[]) (tk:=tt) (sl:=#[]) (es:=[]) (n:=0) hn (i5 hh) (Nat.succ_ne_self _) (Lj emptyDict (instObj (cD g) hh.objs.size))
   (by have:=ik (hh.push emptyDict) (o:=instObj (cD g) hh.objs.size) rfl;rwa [Heap.size_push] at this)
   (cf _ (ik _ rfl)) .nil).2.2
theorem U5{x:Nat}{ex:Expr}(h:ay sc (.gy x l) ex=true):∃p es pos,ex=.Call (.Name (nm x) p) es [] pos/\bO sc l es=true/\fW sc x (nm x)=true:=
 cG h λ_ es _ q h=>bx h λ_ p h=>dN h λa b c=>aC c (fe a λa=>⟨p,es,q,rfl,b,a⟩)
def FnAt(fa:Nat)(h:Heap):Prop:=∃(q:Str) (ar:Arguments) (bo:Expr) (inner:Scope) (cl:List (Str×Addr)) (pm:Value) (c':Nat) (eH:Value),h.get? fa=some (kla_obj "<lambda>" q ar bo inner cl pm c' eH)
def FnAt.keep(h:Heap)(x:FnAt fa h):∃k,(k=Keeper.frame\/k=Keeper.machine\/k=Keeper.boundFrame)/\Looks (model J w) h (keeperOf (.ref fa)) k:=by
 obtain⟨q,ar,bo,inner,cl,pm,c',eH,e⟩:=x;show⟨.frame,.inl rfl,(Looks.ld (part:=none) e).andThen .now⟩
def iy.fn{p:List Nat}(x:iy bz Y h fa p b cs):FnAt fa h:=by
 obtain⟨ar,bo,inner,c',eH,cl,q,pm,sc,cps,e1,_⟩:=x;show⟨q,ar,bo,inner,cl,pm,c',eH,e1⟩
def U6{x:Nat}(hl:iM l):SE (.gy x l):=by
 intros;intro n c ex ak Q X hw;obtain⟨p,es,pos,rfl,h2,h0⟩:=U5 ak;obtain⟨ai,b,aq,e,aU⟩:=SV hw;obtain⟨fa,h3,h4⟩:=c.lv.loc x _ (KG c.st h0) e;rw[nB];exact wb (h3.eval c.st ?_);exact callArgs (KP:=FnAt fa) hl c h2 aU (λh X=>FnAt.keep h X) λvs xs Y' s' hv hq c' a=>?_;have Ls:=h4.step a.2.2;exact⟨Ls.fn,wpAny_call (codeAny_mono (c'.wo.iY A f fa ai b aq vs xs Q Y0 s0 Y' s' c'.rm.less c'.lv.cK c'.at_ Ls hv hq) λr fk z=>?_)⟩;rcases r with e | (v | _ | _ | _)<;>first | show z.elim | show z
def mem_lookup{l:List (Str×NameKind)}{x:Str}{k:NameKind}(h:l.lookup x=some k):(x,k)∈l:=by
 induction l with
 |nil=>cases h
 |cons p r ih=>
  obtain⟨y,j⟩:=p
  rewrite [lc] at h
  split at h
  ·rename_i e;cases h;rw[bq.mp e];show .head _
  ·show .tail _ (ih h)
def oM(env:PySem.Env):List (Str×NameKind)->List (Str×Addr)->List (Str×Addr)
 | [],cs=>cs
 |(x,k)::r,cs=>if k == .free then oM env r ((x,(env.cells.lookup x).getD 0)::cs) else oM env r cs
def U7(env:PySem.Env):∀(l:List (Str×NameKind)) (cs:List (Str×Addr)),(∀p∈l,p.2=.free->∃c,env.cells.lookup p.1=some c) ->
  (forIn l cs (λ(p:Str×NameKind) (r:List (Str×Addr))=>(match p with
   |(name,kind)=>if (kind == .free)=true then do let c <-cellOf env name;pure (ForInStep.yield ((name,c)::r)) else pure (ForInStep.yield r):Sem (ForInStep (List (Str×Addr))))))=pure (oM env l cs):=by
 intro zl;induction zl with
 |nil=>
  intro cs _;show rfl
 |cons zx r ih=>
  obtain⟨x,k⟩:=zx;intro cs h;rw[List.forIn_cons];dsimp only;dsimp only[oM];by_cases hk:(k == .free)=true
  ·rw[if_pos hk,if_pos hk];obtain⟨c,hc⟩:=h (x,k) (.head _) (bq.mp hk);have:cellOf env x=pure c:=by unfold cellOf;rw[hc]
   rw[this,hc];show(forIn r ((x,c)::cs) _:Sem _)=_;show ih _ λp hp=>h p (.tail _ hp)
  ·rw[if_neg hk,if_neg hk];show ih _ λp hp=>h p (.tail _ hp)
def U8(env:PySem.Env){x:Str}:∀(l:List (Str×NameKind)) (cs:List (Str×Addr)),((x,.free)∈l\/∃c,cs.lookup x=some c)->(∀c,cs.lookup x=some c->env.cells.lookup x=some c)->(∃c,env.cells.lookup x=some c)->(oM env l cs).lookup x=env.cells.lookup x:=by
 intro zl;induction zl with
 |nil=>
  intro cs h k e;rcases h with h | ⟨c,h⟩
  ·cases h
  ·show cs.lookup x=_;rw[h,k c h]
 |cons zx r ih=>
  obtain⟨y,j⟩:=zx;intro cs h k e;dsimp only[oM];by_cases hj:(j == .free)=true
  ·rw[if_pos hj];by_cases uT:x=y
   ·subst uT;obtain⟨c,hc⟩:=e;exact ih _ (.inr ⟨c,?_⟩) (λc' kX=>?_) ⟨c,hc⟩
    ·rw[lc];simp[hc]
    ·rewrite [lc] at kX;simp[hc] at kX;rw[hc,kX]
   ·have au:(x == y)=false:=by simpa using uT
    exact ih _ ?_ (λc' kX=>?_) e
    ·rcases h with h | ⟨c,h⟩
     ·rcases aO.mp h with h | h
      ·cases h;show absurd rfl uT
      ·show .inl h
     ·show .inr ⟨c,by rw[lc,au];show h⟩
    ·rewrite [lc,au] at kX;show k c' kX
  ·rw[if_neg hj];exact ih _ ?_ k e;rcases h with h | h
   ·rcases aO.mp h with h | h
    ·cases h;show absurd rfl hj
    ·show .inl h
   ·show .inr h
def U9(env:PySem.Env):∀(l:List (Str×NameKind)) (cs:List (Str×Addr)),(∀p∈l,p.2=.free->∃c,env.cells.lookup p.1=some c)->∀(U:Str->Prop),(∀x c,cs.lookup x=some c->U x/\env.cells.lookup x=some c)->∀x c,(oM env l cs).lookup x=some c->(U x\/(x,NameKind.free)∈l)/\env.cells.lookup x=some c:=by
 intro zl;induction zl with
 |nil=>
  intro cs _ U h x c e;show⟨.inl (h x c e).1,(h x c e).2⟩
 |cons zx r ih=>
  obtain⟨y,j⟩:=zx;intro cs h1 U h x c e;dsimp only[oM] at e;by_cases hj:(j == .free)=true
  ·rewrite [if_pos hj] at e
   have key:∀z d,List.lookup z ((y,(env.cells.lookup y).getD 0)::cs)=some d->(U z\/z=y)/\env.cells.lookup z=some d:=λz d hz=>by
    rewrite [lc] at hz
    split at hz
    ·rename_i q;obtain⟨c',kX⟩:=h1 (y,j) (.head _) (bq.mp hj);rw[bq.mp q];rw[kX] at hz ⊢;show⟨.inr rfl,hz⟩
    ·show⟨.inl (h z d hz).1,(h z d hz).2⟩
   obtain⟨a,b⟩:=ih _ (λp hp=>h1 p (.tail _ hp)) (λz=>U z\/z=y) key x c e;exact⟨?_,b⟩;clear e h1 key;rcases a with(a | rfl) | a
   ·show .inl a
   ·rw[bq.mp hj];show .inr (.head _)
   ·show .inr (.tail _ a)
  ·rewrite [if_neg hj] at e
   obtain⟨a,b⟩:=ih cs (λp hp=>h1 p (.tail _ hp)) U h x c e;show⟨a.imp id (.tail _),b⟩
def Lv{scope:Scope}{env:PySem.Env}(h:∀p∈scope.names,p.2=.free->∃c,env.cells.lookup p.1=some c):∃cl,closureFor scope env=pure cl/\(∀x,(x,.free)∈scope.names->cl.lookup x=env.cells.lookup x)/\∀x c,cl.lookup x=some c->(x,NameKind.free)∈scope.names/\env.cells.lookup x=some c:=by
 exact⟨oM env scope.names [],?_,λx hx=>U8 env _ _ (.inl hx) (λc hc=>by cases hc) (h _ hx rfl),λx c e=>?_⟩
 ·show(congrArg (λt:Sem (List (Str×Addr))=>t >>= λs=>pure s) (U7 env scope.names [] h)).trans rfl
 ·obtain⟨a,b⟩:=U9 env scope.names [] h (λ_=>False) (λx c e=>by cases e) x c e;show⟨a.elim False.elim id,b⟩
def Va{pos:Pos}{a b:Int}{c:Value}(l:List Value)(h:TriplesOk l)(e:codeAmong pos (l++[rawInt a,rawInt b,c])=some v):codeAmong pos l=some v\/v=c:=by
 fun_induction TriplesOk l with
 |case1=>
  simp only[List.nil_append,rawInt,codeAmong] at e;split at e
  ·cases e;show .inr rfl
  ·cases e
 |case2 a' t b' u x rest ih=>
  simp only[List.cons_append,codeAmong] at e ⊢;split at e
  ·rename_i hc;rw[if_pos hc];show .inl e
  ·rename_i hc;rw[if_neg hc];show ih h e
 |case3 l h1 h2=>show h.elim
def Lw{l:List Value}{q:Str}{t:Tok}(h:TriplesOk l)(e:l[1]?=some (.str q t)):False:=by
 cases l with
 |nil=>cases e
 |cons x l=>cases l with
  |nil=>cases e
  |cons y l=>
   cases e
   induction x using Value.casesOn<;>show h
def Vb:tP.Nodup:=by decide +kernel
def Vc{t t':Nat×Nat×String}(h:t∈tabs)(h':t'∈tabs)(e:t.2.1=t'.2.1):t=t':=by
 have z:∀(l:List FR) (p:List Nat),p.Nodup->∀q q':FR×Nat,q∈l.zip p->q'∈l.zip p->q.2=q'.2->q=q':=by
  intro l;induction l with
  |nil=>intro p _ q q' hq;cases hq
  |cons a r ih=>
   intro p hp q q' hq bG he;cases p with
   |nil=>cases hq
   |cons b p=>
    rewrite [bS] at hp
    rw[kH] at hq bG;rcases aO.mp hq with rfl | hq<;>rcases aO.mp bG with rfl | bG
    ·rfl
    ·show absurd (List.of_mem_zip bG).2 (by dsimp only at he;rw[<-he];show hp.1)
    ·show absurd (List.of_mem_zip hq).2 (by dsimp only at he;rw[he];show hp.1)
    ·show ih p hp.2 q q' hq bG he
 unfold tabs at h h';obtain⟨q,hq,rfl⟩:=bJ.mp h;obtain⟨q',bG,rfl⟩:=bJ.mp h';rw[z fT tP Vb q q' hq bG e]
def Vd{r:FR}(h:r∈fT):∃p,(r.cd,p,r.ql)∈tabs:=by
 have hl:fT.length=tP.length:=by decide +kernel
 obtain⟨i,hi,e⟩:=List.getElem_of_mem h;have hz:i<(fT.zip tP).length:=by rw[List.length_zip,<-hl,Nat.min_self];show hi
 exact⟨tP[i],?_⟩;unfold tabs;exact bJ.mpr ⟨(fT.zip tP)[i],List.getElem_mem hz,?_⟩;rw[List.getElem_zip,e];rfl
def uW(I:Inv J w bz Y h)(k:∀b o,h.get? b=some o->∃o',h'.get? b=some o'/\(∀c fs,Y b=some (.inst c fs)->o'=o)){c:Nat}(hn:h.get? c=none):¬ aD Y h' c:=by
 rintro(⟨o,e,_⟩ | ⟨a,cc,fs,ox,e,hx,hd⟩ | ⟨t,ht,rfl⟩)
 ·nomatch I.unset hn,e
 ·obtain⟨ob,e'⟩:=(I.rep a _ e).here;obtain⟨o',e1,e2⟩:=k _ _ e'
  nomatch hx,e1
  rewrite [e2 _ _ e] at hd
  obtain⟨od,z⟩:=I.dat ⟨cc,fs,ob,e,e',hd⟩
  nomatch hn,z
 ·obtain⟨ps,e,_⟩:=I.tab t ht
  nomatch hn,e
def At.table{s0:Shared}{t:Nat×Nat×String}{ps:Array Value}{a b:Int}{c':Nat}(x:At J w bz own Y0 s0 Y s)(ht:t∈tabs)(hP:s.heap.get? t.2.1=some (tabObj ps))(k:Heap.ExtBut t.2.1 s.heap h')
  (Ly:h'.get? t.2.1=some (tabObj (ps++#[rawInt a,rawInt b,.ref c']))) (hc:h'.CodeRec (.ref c') (wU t.2.2)):At J w bz own Y0 s0 Y { s with heap:=h',toks:=tk}:=by
 obtain⟨⟨hh,t0,e⟩,I,S⟩:=x;have lJ:wV t.2.1:=⟨t,ht,rfl⟩;have da:∀b d,bj Y h' b d↔bj Y s.heap b d:=by
  intro b d;constructor
  ·rintro⟨c,fs,ox,e,hx,hd⟩;obtain⟨ob,e'⟩:=(I.rep b _ e).here;have:=k b ob (λq=>I.wW e (q ▸ lJ)) e'
   nomatch hx,this
   show⟨c,fs,ox,e,e',hd⟩
  ·rintro⟨c,fs,ox,e,hx,hd⟩;show⟨c,fs,ox,e,k b ox (λq=>I.wW e (q ▸ lJ)) hx,hd⟩
 have mu:∀b,aD Y h' b↔aD Y s.heap b:=λb=>by unfold aD;simp only[da]
 have mP:aD Y s.heap t.2.1:=.inr (.inr lJ);exact⟨⟨h',tk,by rw[e]⟩,⟨λb ob e=>k b ob (λq=>I.old b ob e (q ▸ mP)) (I.stays b ob e),λb q e=>?_,λb ob e m=>I.old b ob e ((mu b).mp m),λb d y=>I.sep b d ((da _ _).mp y),λb c d y z=>I.inj b c d ((da _ _).mp y) ((da _ _).mp z),λt' rZ=>?_⟩,S.trans ⟨λb o e=>(Decidable.em (b=t.2.1)).elim (λq=>q ▸ ⟨_,Ly⟩) λq=>⟨o,k b o q e⟩,λb ob e n=>?_,λb ob e n=>n⟩⟩
 ·exact(I.rep b q e).keeps (λob z=>k b ob (λq=>I.wW e (q ▸ lJ)) z) λob d od z zd zo hq=>?_;obtain⟨c,fs,rfl⟩:=hq;show k d od (λq=>I.Ko ⟨c,fs,ob,e,z,zd⟩ (q ▸ lJ)) zo
 ·have Lz:∀b o,s.heap.get? b=some o->pZ o->b≠t.2.1:=λb o e r q=>by
   subst q
   nomatch hP,e
   obtain⟨vs,q,tt,hd,hv⟩:=r;cases hd;obtain⟨uX,e1,e2,_⟩:=I.tab t ht
   nomatch hP,e1
   show Lw e2 (by rw[Array.getElem?_toList];show hv)
  by_cases hq:t'.2.1=t.2.1
  ·obtain rfl:=Vc rZ ht hq;obtain⟨uX,e1,e2,e3⟩:=I.tab t' rZ
   nomatch hP,e1
   exact⟨_,Ly,?_,λpos cv LC=>?_⟩
   ·rw[Array.toList_append];show TriplesOk_snoc _ _ _ _ e2
   ·rewrite [Array.toList_append] at LC
    rcases Va _ e2 LC with z | rfl
    ·obtain⟨c,o,vs,tt,e4,e5,e6,e7⟩:=e3 pos cv z;show⟨c,o,vs,tt,e4,k c o (Lz c o e5 ⟨vs,_,tt,e6,e7⟩) e5,e6,e7⟩
    ·show hc
  ·exact tab_keep (I.tab t' rZ) ?_ λb o e r=>k b o (Lz b o e r) e;obtain⟨uX,e1,_⟩:=I.tab t' rZ;rw[e1];show k _ _ hq e1
 ·show⟨ob,k b ob (λq=>n (q ▸ mP)) e,λm=>n ((mu b).mp m),.inr (.inl rfl)⟩
def Ve:∀{aq:List Nat}{cs:List (Nat×V)},wu m aq=some cs->cs.map (·.1)=aq/\(∀x v,lk cs x=some v->lk m x=some v/\∀p b c,v≠.bA p b c)/\∀k∈aq,∃v,lk m k=some v/\lk cs k=some v:=by
 intro zl;induction zl with
 |nil=>
  intro cs h;cases h;show⟨rfl,(λx v e=>by cases e),λk hk=>by cases hk⟩
 |cons x r ih=>
  intro cs h;dsimp only[wu] at h;split at h
  ·cases h
  ·rename_i v hn hv;obtain⟨c,hc,rfl⟩:=wh.mp h;obtain⟨h1,h2,h3⟩:=ih hc;exact⟨by rw[dU,h1],λy u e=>?_,λk hk=>?_⟩
   ·have e':(match Nat.beq x y with | true=>some v | false=>lk c y)=some u:=e
    split at e'
    ·rename_i q;cases e';rw[<-nq q];show⟨hv,λp b c' z=>hn p b c' z⟩
    ·show h2 y u e'
   ·have goal:∀y,(lk ((x,v)::c) y)=(match Nat.beq x y with | true=>some v | false=>lk c y):=λ_=>rfl
    cases q:Nat.beq x k with
    |true=>
     have e:=nq q;subst e;show⟨v,hv,by rw[goal,q]⟩
    |false=>
     rcases aO.mp hk with rfl | hk
     ·simp at q
     ·obtain⟨u,u1,u2⟩:=h3 k hk;show⟨u,u1,by rw[goal,q];show u2⟩
  ·cases h
structure adc(sc:Scope)(ai aq:List Nat)(ar:Arguments)(inner:Scope):Prop where
 plain:uJ ar=true
 gA:ar.defaults=[]
 kY:uI ai ar.args=true
 Ec:wH inner=true
 i9:∀x∈inner.names,(x.2=.local/\∃k∈ai,nm k=x.1)\/(x.2=.free/\(∃k∈aq,nm k=x.1)/\sc.names.lookup x.1=some .cell/\(x.1 == ("__classdict__":Str))=false)\/x.2=.globalImplicit
 cps:∀k∈aq,inner.names.lookup (nm k)=some .free
 pl:∀k∈ai,inner.names.lookup (nm k)=some .local
 ne:aq≠[]
def LJ{ai aq:List Nat}{inner:Scope}(h:wI sc ai aq ar inner=true):adc sc ai aq ar inner:=by
 exact rM h λh h5 h6 h7=>rN h λh0 h1 h2 h3 h4=>⟨h1,List.isEmpty_iff.mp h2,h3,h4,λx hx=>?_,λk hk=>?_,λk hk=>AH (bR.mp h7 k hk),λq=>by nomatch q,h0⟩
 ·rcases oz (bR.mp h5 x hx) with⟨e,z⟩ | ⟨_,z⟩ | ⟨e,z⟩ | ⟨e,_⟩
  ·obtain⟨k,hk,e'⟩:=List.any_eq_true.mp z;show .inl ⟨dW e,k,hk,bq.mp e'⟩
  ·cases z
  ·exact dN z λz1 z2 z3=>?_;obtain⟨k,hk,e'⟩:=List.any_eq_true.mp z1;exact .inr (.inl ⟨dW e,⟨k,hk,bq.mp e'⟩,?_,by simpa using z3⟩);rcases oz z2 with⟨_,h⟩ | h | ⟨_,h⟩ | ⟨_,h⟩
   ·cases h
   ·show h.1
   ·cases h
   ·cases h
  ·show .inr (.inr (dW e))
 ·rcases oz (bR.mp h6 k hk) with⟨_,h⟩ | ⟨_,h⟩ | h | ⟨_,h⟩
  ·cases h
  ·cases h
  ·show h.1
  ·cases h
def eE.cell{env:PySem.Env}{x:Str}(e:env.kindOf x=some .cell)(H:eE h env x v):∃c,env.cells.lookup x=some c/\h.IsCell c (some v):=by
 rcases H with⟨e',_⟩ | ⟨_,r⟩
 ·nomatch e,e'
 ·show r
def Vf{env:PySem.Env}(h:uJ ar=true)(hd:ar.defaults=[]):defaultsOf ar env=([],[]):=by
 unfold uJ at h;simp only[ba] at h;obtain⟨a,b,c,d,kd,f,g⟩:=ar;dsimp only at hd;subst hd;have:kd=[]:=List.isEmpty_iff.mp h.1.2;subst this;rfl
def Vg{c P:Nat}{v:Option Value}{ps:Array Value}(k:Heap.ExtBut P h h')(hP:h.get? P=some (tabObj ps))(x:h.IsCell c v):h'.IsCell c v:=by
 obtain⟨o,e,hd⟩:=x;show⟨o,k c o (λq=>by subst q;nomatch hP,e;cases hd) e,hd⟩
def adc.free{ai aq:List Nat}{inner:Scope}(LF:adc sc ai aq ar inner){x:Str}(hx:(x,NameKind.free)∈inner.names):(∃k∈aq,nm k=x)/\sc.names.lookup x=some .cell:=by
 rcases LF.i9 _ hx with⟨e,_⟩ | ⟨_,a,b,_⟩ | e
 ·cases e
 ·show⟨a,b⟩
 ·cases e
def LK{cs:Env}{k:Nat}{v:V}(h:lk cs k=some v):k∈cs.map (·.1):=by
 induction cs with
 |nil=>cases h
 |cons p r ih=>
  obtain⟨j,u⟩:=p;have h':(match Nat.beq j k with | true=>some u | false=>lk r k)=some v:=h
  split at h'
  ·rename_i q;rw[<-nq q];show .head _
  ·show .tail _ (ih h')
def Vh{F:bu}{f:Act}{s0:Shared}(c:Cn J w bz F W A f sc m Y0 s0 Y s n){ai aq:List Nat}{inner:Scope}(LF:adc sc ai aq ar inner){k:Nat}{v:V}(hk:k∈aq)(hv:lk m k=some v)(nc:∀p b c,v≠.bA p b c):∃cc rv,f.env.cells.lookup (nm k)=some cc/\s.heap.IsCell cc (some rv)/\VR rv v:=by
 have kn:f.env.kindOf (nm k)=some .cell:=by unfold Env.kindOf;rw[c.st.se];show(LF.free (mem_lookup (LF.cps k hk))).2
 have L:=c.lv.loc k v (by unfold rW;rw[kn];rfl) hv;clear hv;cases v with
 |bA p b' Vi=>show absurd rfl (nc p b' Vi)
 |_=>
  obtain⟨rv,h1,h2⟩:=L;obtain⟨cc,h3,h4⟩:=h1.cell kn;show⟨cc,rv,h3,h4,h2⟩
def Vj{c':Nat}{o':Obj}{vs:Array Value}{t:Tok}{q:Str}(I:Inv J w bz Y h)(e5:h.get? c'=some o')(e6:o'.data=.fields vs)(e7:vs[1]?=some (.str q t)):¬ aD Y h c':=by
 rintro(⟨q,z,zm⟩ | ⟨a,z⟩ | ⟨t',z1,z2⟩)
 ·show(I.rep _ _ z).Kp e5 ⟨vs,_,t,e6,e7⟩
 ·obtain⟨es,n',z'⟩:=I.AX z
  nomatch z',e5;cases e6
 ·obtain⟨uX,y1,y2,_⟩:=I.tab t' z1
  rewrite [<-z2,e5] at y1;cases y1
  cases e6.symm
  show Lw y2 (by rw[Array.getElem?_toList];show e7)
def Vk{F:bu}{f:Act}{s0:Shared}(c:Cn J w bz F W A f sc m Y0 s0 Y s n){bo:Expr}{inner:Scope}{pos:Pos}{ai aq:List Nat}
  (hl:wI sc ai aq ar inner=true) (hb:ay inner b bo=true) (hc:wu m aq=some cs) {P:Value->Shared->Prop} (h:∀fa s',iy bz Y s'.heap fa ai b cs->Cn J w bz F W A f sc m Y0 s0 Y s' n->P (.ref fa) s') :
  wpAny (model J w) A (eval (.Lambda ar bo inner pos) f.env) P EE s:=by
 have LF:=LJ hl;obtain⟨r,hr,qg,xc⟩:∃r∈fT,f.env.code=.ref r.cd/\f.env.qual=Str.ofString r.ql++".<locals>.":=c.st.KC.elim (λq=>by
  obtain⟨k,rest,e⟩:=List.exists_cons_of_ne_nil LF.ne;show absurd (LF.free (mem_lookup (LF.cps k (e ▸ .head _)))).2 (q _)) id
 obtain⟨Pt,ht⟩:=Vd hr;have I:=c.at_.2.1;obtain⟨ps,hP,hT,hA⟩:=I.tab _ ht;dsimp only at hP hA;obtain⟨c1,c2,c3⟩:=Ve hc;have cellAt:∀k∈aq,∃v cc rv,lk cs k=some v/\f.env.cells.lookup (nm k)=some cc/\s.heap.IsCell cc (some rv)/\VR rv v:=λk hk=>by
  obtain⟨v,hv,qh⟩:=c3 k hk;obtain⟨cc,rv,a,b,d⟩:=Vh c LF hk hv (c2 k _ qh).2;show⟨v,cc,rv,qh,a,b,d⟩
 obtain⟨cl,eJ,oN,ja⟩:=Lv (scope:=inner) (env:=f.env) λp hp he=>by
  obtain⟨k,hk,e⟩:=(LF.free (x:=p.1) (by rw[<-he];show hp)).1;obtain⟨v,cc,rv,_,h3,_⟩:=cellAt k hk;show⟨cc,by rw[<-e];show h3⟩
 obtain⟨mg,G,bm,ob,b1,b2,b3,b4,b5,b6⟩:=c.cx.gl;have Gs:=G.keeps c.stays;have Bd:=c.stays _ _ b3;have Vl:mainGlobals≠Pt:=λq=>by
  obtain⟨o,es,ep,e,hd,_⟩:=Gs
  nomatch q,hP,e;cases hd
 have Vm:bm≠Pt:=λq=>by nomatch q,hP,Bd;cases b6
 have Vn:bm≠mainGlobals:=λq=>by
  obtain⟨o,es,ep,e,hd,_⟩:=G
  nomatch q,e,b3;nomatch hd,b6
 have CH:CodeHd s.heap r.cd Pt:=(c.cx.head _ ht).keeps c.stays;have BA:s.heap.BuiltinsAt mg Pt:=⟨bm,ob,b1,b2,Vn,Vm,Bd,b4,b5,b6⟩;have hq:f.env.qual++"<lambda>"=wU r.ql:=by unfold wU;rw[xc]
 have fin:∀(h':Heap) (c':Nat) (eH:Value) (pm:Value) (tk:Nat),(∀cc v,s.heap.IsCell cc v->h'.IsCell cc v)->h'.CodeRec (.ref c') (wU r.ql)->¬ aD Y h' c'->At J w bz nil Y s Y { s with heap:=h',toks:=tk} ->
   P (.ref h'.objs.size) { s with heap:=h'.push (kla_obj "<lambda>" (f.env.qual++"<lambda>") ar bo inner cl pm c' eH),toks:=tk}:=λh' c' eH pm tk kc lK Vo a=>by
  have a2:At J w bz nil Y s Y { s with heap:=h'.push (kla_obj "<lambda>" (f.env.qual++"<lambda>") ar bo inner cl pm c' eH),toks:=tk}:=a.grow (tk:=tk) λb o e=>cf _ e
  have I1:Inv J w bz Y h':=a.2.1;have kp:∀b o,h'.get? b=some o->(h'.push (kla_obj "<lambda>" (f.env.qual++"<lambda>") ar bo inner cl pm c' eH)).get? b=some o:=λb o e=>cf _ e;exact h _ _ ⟨ar,bo,inner,c',eH,cl,f.env.qual++"<lambda>",pm,sc,aq,ik _ rfl,?_,?_,λm=>Vo ((aD.grow I1 kp).mp m),hl,hb,⟨c1.symm,λx cc hx=>?_,λx y cc hx hy=>c.st.inj x y cc (ja x cc hx).2 (ja y cc hy).2⟩,λx v hx=>?_⟩ (c.go a2)
  ·show uW I1 (λb o e=>⟨o,kp b o e,λ_ _ _=>rfl⟩) (i5 h')
  ·show Heap.CodeRec.keeps (q:=f.env.qual++"<lambda>") (hq.symm ▸ lK) kp
  ·obtain⟨k,hk,e⟩:=(LF.free (ja x cc hx).1).1;obtain⟨v,_,_,z1,_⟩:=cellAt k hk;show⟨k,v,e.symm,z1⟩
  ·have LN:x∈aq:=c1 ▸ LK hx;obtain⟨v',cc,rv,z1,z2,z3,z4⟩:=cellAt x LN
   nomatch hx,z1
   obtain⟨_,xd,nb⟩:=c.lv.gb _ _ z2;exact⟨cc,rv,(oN _ (mem_lookup (LF.cps x LN))).trans z2,?_,z4,?_,nb⟩
   ·obtain⟨o,e,hd⟩:=kc _ _ z3;show⟨o,kp _ _ e,hd⟩
   ·obtain⟨o,e,hd⟩:=z3;obtain⟨_,_,Vp,_⟩:=a2.2.2.st _ _ e xd;show Vp
 exact kla_eval (Vf LF.plain LF.gA) ?_;cases hf:codeAmong pos ps.toList with
 |none=>
  exact kla_makeFunction eJ c.st.gl Gs qg CH hP hT hf Vl BA λc' eH h' tk hx Ed kZ lK LQ=>?_
  rewrite [hq] at lK
  have an:s.heap.get? c'=none:=om Ed;have a1:At J w bz nil Y s Y { s with heap:=h',toks:=tk}:=(At.refl I).table (t:=(r.cd,Pt,r.ql)) ht hP hx LQ lK
  exact fin h' c' eH _ tk (λcc v x=>Vg hx hP x) lK ?_ a1;exact uW I (λb o e=>?_) an;by_cases q:b=Pt
  ·subst q;show⟨_,LQ,λcc fs z=>absurd ⟨_,ht,rfl⟩ (I.wW z)⟩
  ·show⟨o,hx b o q e,λ_ _ _=>rfl⟩
 |some cv=>
  obtain⟨c',o',vs,t,rfl,e5,e6,e7⟩:=hA pos cv hf;exact kla_makeFunctionHit eJ c.st.gl Gs qg CH hP hT hf BA λeH h' tk hk dp=>?_;have a1:At J w bz nil Y s Y { s with heap:=h',toks:=tk}:=(At.refl I).grow hk
  exact fin h' c' eH _ tk (λcc v zz=>by obtain⟨o,e,hd⟩:=zz;show⟨o,hk _ _ e,hd⟩) ⟨c',o',vs,t,rfl,hk _ _ e5,e6,e7⟩ ?_ a1;show λmm=>Vj I e5 e6 e7 ((aD.grow I hk).mp mm)
@[elab_as_elim] theorem gI:∀{as:List Expr}{p}{P:List Expr->Prop},AK as p=true->(∀i ar bo inner lp,p i ar bo inner=true->P (i++[.Lambda ar bo inner lp]))->P as
 | [],_,_,h,_=>(aZ h).elim
 | [_],_,P,h,k=>Ds (P:=λe=>P [e]) h λar bo inner lp h=>k [] ar bo inner lp h
 |e::x::r,p,P,h,k=>gI (P:=λl=>P (e::l)) (show AK (x::r) (λl=>p (e::l))=true from h) λi ar bo inner lp h=>k (e::i) ar bo inner lp h
def LR{z:Expr}(hz:∀env,starEach [z] env=[(false,eval z env)]):∀{l:List E},(∀e∈l,SE e)->∀{F:bu}{W:Wo}{A:Around}{f:Act}{sc:Scope}{m:Env}{Y0 Y:So}{s0 s:Shared}{n:Nat},Cn J w bz F W A f sc m Y0 s0 Y s n->∀{init:List Expr}{pos:Pos},bO sc l init=true->∀{Q:List V->So->Prop}{X:Nat->So->Prop},wEs W l m Q X Y->∀{P:List Value->Shared->Prop},
  (∀vs xs Y' s',aF vs xs->Q xs Y'->Cn J w bz F W A f sc m Y0 s0 Y' s' n->wpAny (model J w) A (eval z f.env) (λv fk=>P (vs++[v]) fk) (BE J w bz F f.fl Y0 s0 X) s') ->
  wpAny (model J w) A (spliced (backTo pos (starEach (init++[z]) f.env))) P (BE J w bz F f.fl Y0 s0 X) s:=by
 intro zl;induction zl with
 |nil=>
  intro _ F W A f sc m Y0 Y s0 s n c init pos ak Q X hw P h;show aC ak (by
   exact spliced_more (rest:=[]) (bB (h [] [] Y s .nil hw c) (λv s' q=>?_) λ_ _ q=>q) (hz f.env);show spliced_nil q)
 |cons e l ih=>
  intro hl F W A f sc m Y0 Y s0 s n c init pos ak Q X hw P h;have aU:wE W e m (λv s=>wEs W l m (λvs s=>Q (v::vs) s) X s) X Y:=hw;exact dA ak λex r h3 h1 h2=>?_;rw[List.cons_append];show spliced_more (SE.then (hl e (.head _)) c h1 aU λv x Y' s' hv hq c'=>ih (λe he=>hl e (.tail _ he)) c' h2 hq λvs xs eI fk jw bG a8=>h (v::vs) (x::xs) eI fk (.cons hv jw) bG a8) (pY h3)
theorem Vq{g:Nat}{ai aq:List Nat}{ex:Expr}(h:ay sc (.dI g l ai b aq) ex=true):∃x p init ar bo inner lp pos,ex=.Call (.Name x p) (init++[.Lambda ar bo inner lp]) [] pos/\jT sc x (gF g)=true/\bO sc l init=true/\wI sc ai aq ar inner=true/\ay inner b bo=true:=
 cG h λ_ _ _ q h=>bx h λx p h=>dN h λa b c=>aC b (gI c λi ar bo inner lp h=>dN h λd e f=>⟨x,p,i,ar,bo,inner,lp,q,rfl,a,d,e,f⟩)
def Vr{env:PySem.Env}{pos:Pos}{bo:Expr}{inner:Scope}{lp:Pos}:∀{l:List E}{es:List Expr},bO sc l es=true->(backTo pos (starEach (es++[.Lambda ar bo inner lp]) env)).any (·.1)=false/\∃t r,starEach (es++[.Lambda ar bo inner lp]) env=(false,t)::r:=by
 intro zl;induction zl with
 |nil=>
  intro _ h;show aC h ⟨rfl,_,_,rfl⟩
 |cons zx _ ih=>
  intro _ h;show dA h λ_ r a _ h=>by
   have h1:=(ih h).1;rw[List.cons_append,pY a];show⟨h1,_,_,rfl⟩
def Vs{g:Nat}{ai aq:List Nat}(hl:∀e∈l,SE e):SE (.dI g l ai b aq):=by
 intros;intro n c ex ak Q X hw;obtain⟨x,p,init,ar,bo,inner,lp,pos,rfl,h1,h2,h3,h4⟩:=Vq ak;obtain⟨r,hr⟩:=Lp h1;rw[nB];exact wb (uR c.cx c.st c.stays h1 ?_);obtain⟨s1,t,rr,s2⟩:=Vr (env:=f.env) (pos:=pos) (ar:=ar) (bo:=bo) (inner:=inner) (lp:=lp) h2;exact callWith_of (P:=(KF w.params).In) (by rw[s1];rfl) (Eb hr) ?_;have main:wpAny (model J w) A (spliced (backTo pos (starEach (init++[.Lambda ar bo inner lp]) f.env))) (λvs s₁=>(KF w.params).In s₁.heap/\wpAny (model J w) A (call (.ref (gF g)) ([]++vs)) (GE J w bz Y0 s0 Q) (BE J w bz F f.fl Y0 s0 X) s₁) (BE J w bz F f.fl Y0 s0 X) s:=by
  exact LR (λenv=>rfl) hl c h2 hw λvs xs Y' s' hv hq c'=>?_;obtain⟨cs,hc,hq⟩:=nz hq;show Vk c' h3 h4 hc λfa fk eJ a8=>⟨a8.K,Ea a8 (hv.vc.snoc (show VC bz Y' fk.heap (.ref fa) (.bA ai b cs) from ⟨fa,rfl,eJ⟩)) hq⟩
 rw[s2] at main ⊢;show evalArgs_plain main
theorem uY(id:String):∀h:Heap,True->∃k,(k=Keeper.frame\/k=Keeper.machine\/k=Keeper.boundFrame)/\Looks M h (keeperOf (.builtin id)) k:=λ_ _=>⟨.machine,.inr (.inl rfl),Looks.of_pure rfl⟩
theorem LV(id:String):∀h:Heap,True->∃k,(k=Keeper.frame\/k=Keeper.machine\/k=Keeper.boundFrame)/\Looks M h (keeperOf (.type id)) k:=λ_ _=>⟨.machine,.inr (.inl rfl),Looks.of_pure rfl⟩
theorem Vt{o:Lm}{a:E}{ex:Expr}(h:ay sc (.lm o a l) ex=true):∃v ap es pos,ex=.Call (.Attribute v (Str.ofString (Dq o)) ap) es [] pos/\ay sc a v=true/\bO sc l es=true/\(nu v && ap.endLine == pos.line)=true/\es.length<20:=
 cG h λ_ es _ q h=>fY h λv _ ap h=>rO h λa b c d e f=>fZ b (aC d ⟨v,ap,es,q,rfl,a,c,e,Lq f⟩)
def LW:Lm->String
 | .append=>"list.append"
 | .extend=>"list.extend"
 | .pop=>"list.pop"
def Vu{E:Value->Shared->Prop}{D:Addr}{pl:Sem Bool}{Q:Value×List Value->Shared->Prop}(m:Lm)(ho:s.heap.get? D=some o)(hc:o.cls=.type "list")(hd:o.dict=none)
  (h:Q (.builtin (LW m),[.ref D]) s):wpAny (model J w) A (getMethod (.ref D) (Str.ofString (Dq m)) pl) Q E s:=by
 cases m with
 |append=>show getMethod_builtin ⟨o,ho,hc⟩ PySem.F.plainAttrs_list PySem.F.slot_list_append PySem.F.type_list_append (λa e=>by cases e;show⟨o,ho,hd⟩) h
 |extend=>show getMethod_builtin ⟨o,ho,hc⟩ PySem.F.plainAttrs_list PySem.F.slot_list_extend PySem.F.type_list_extend (λa e=>by cases e;show⟨o,ho,hd⟩) h
 |pop=>show getMethod_builtin ⟨o,ho,hc⟩ PySem.F.plainAttrs_list PySem.F.slot_list_pop PySem.F.type_list_pop (λa e=>by cases e;show⟨o,ho,hd⟩) h
theorem At.lst{s0:Shared}{a:Nat}(x:At J w bz own Y0 s0 Y s)(ho:Y a=some (.lst xs))(k:Heap.SameBut a s.heap h')(hn:h'.get? a=some (cR ws n))(r:aF ws ys)(hb:ys.length<=200000) :
  At J w bz own Y0 s0 (Tactic.put Y a (.lst ys)) { s with heap:=h',toks:=tk}:=x.store ho rfl rfl rfl rfl k (.lst hn r hb)
def Vv{E:Value->Shared->Prop}{s0:Shared}{o:Lm}{a:Nat}(x:At J w bz nil Y0 s0 Y s)(r:aF vs xs)(h:I5 o (.ref a) xs Q Y) :
  wpAny (model J w) A (call (.builtin (LW o)) ([.ref a]++vs)) (GE J w bz Y0 s0 Q) E s:=by
 cases o with
 |append=>
  exact cU h r λc v hv h=>?_;obtain⟨ys,e,h⟩:=kU h;obtain⟨us,n,g,q⟩:=d6 (x.2.1.rep _ _ e);have hl:ys.length<100000:=h.1;exact append_at (its:=us.toArray) g (λh' k g'=>⟨_,_,.none,h.2,x.lst (tk:=s.toks) e k (ws:=us++[_]) (n:=n+1) (by rw[g'];simp) (q.app (.cons hv .nil)) (by simp;show⟨"A.199999,A>100000",hl⟩)⟩) ?_;rw[sz,q.len];show qe hl
 |extend=>
  exact cU h r λc v hv h=>aM h hv λc h=>?_;obtain⟨ys,e,h⟩:=kU h;obtain⟨zs,f,h⟩:=kU h;obtain⟨us,n,g,q⟩:=d6 (x.2.1.rep _ _ e);obtain⟨ts,m,g2,q2⟩:=d6 (x.2.1.rep _ _ f);have hl:ys.length+zs.length<100000:=h.2.1;have dp:us.toArray.size+ts.toArray.size<=sizeLine:=by rw[sz,sz,q.len,q2.len];show qe hl
  exact call_meets PySem.F.slot_list_extend ⟨_,g,rfl⟩ PySem.F.entry_list_extend (PySem.F.args_list_extend_2 _ _) (AutoSeq1.list_extend_list_list_0 a us.toArray n c ts.toArray m (extend_door dp) (Nat.le_trans (Nat.le_add_right _ _) dp)) ⟨g,g2,?_⟩;have g':(s.heap.update a (Obj.mapSeq λx=>x++ts.toArray)).get? a=some (cR (us++ts) (if (us.toArray++ts.toArray).size == us.toArray.size then n else n+1)):=by
   rw[Heap.get?_update_self _ g (by rw[mapSeq_app];rfl),mapSeq_app];simp
  show⟨_,_,.none,h.2.2,x.lst (tk:=s.toks) e (Heap.SameBut.update ..) g' (q.app q2) (by rw[iK];show⟨"A+B.200000,A+B>100000",hl⟩)⟩
 |pop=>
  exact p9 h r λh=>?_;obtain⟨ys,e,zs,y,rfl,hq⟩:=kU h;have le:=w0 (x.2.1.rep _ _ e);obtain⟨us,n,g,q⟩:=d6 (x.2.1.rep _ _ e);obtain⟨ws,v,rfl,q1,q2⟩:=q.snoc_inv;rw[iK] at le;exact Copied.pop_at (its:=(ws++[v]).toArray) (y:=v) g (by simp) (λh' k g'=>⟨_,_,q2,hq,x.lst (tk:=s.toks) e k (ws:=ws) (n:=n+1) (by rw[g'];simp) q1 ⟨"A.200000,A+(0+1).200000",le⟩⟩) ?_;rw[sz,iK,q1.len,sizeLine_eq];simp;show⟨"A.16777215,A+(0+1).200000",le⟩
def Vw{o:Lm}{a:E}(ha:SE a)(hl:iM l):SE (.lm o a l):=by
 intros;intro n c ex ak Q X hw;obtain⟨v,ap,es,pos,rfl,h1,h2,h3,h4⟩:=Vt ak;exact method_call ha c h1 h2 h3 h4 hw λov y Y' s' ho hq c' pl=>?_;exact aM hq ho λb hq=>?_;obtain⟨ys,e,hq⟩:=kU hq;obtain⟨us,k,g,q⟩:=d6 (c'.at_.2.1.rep _ _ e);show Vu o g rfl rfl (callArgs (KP:=λ_=>True) hl c' h2 hq (uY _) λvs xs eI fk hv bG a8 _=>⟨trivial,Vv a8.at_ hv bG⟩)
set_option tactic.hygienic false
theorem GE.listAt{s0:Shared}{a:Nat}(x:At J w bz nil Y0 s0 Y s)(r:aF vs xs)(q:new (.lst xs) Q Y)(hb:xs.length<=200000)(hn:s.heap.get? a=none)(k:Grows s.heap h')(ha:h'.get? a=some (cR vs n)) :
  GE J w bz Y0 s0 Q (.ref a) { s with heap:=h',toks:=tk}:=
 ⟨_,_,.ref _,q _ (x.2.1.unset hn),x.add hn rfl k (.lst (n:=n) ha r hb)⟩
def LX{a:Nat}(I:Inv J w bz Y h)(e:Y a=some (.lst xs)\/Y a=some (.tup xs)\/Y a=some (.cO xs)):∃us:List Value,aF us xs/\xs.length<=200000/\((h.IsList a us.toArray/\True)\/IsTup h a us.toArray):=by
 rcases e with e | e | e
 ·obtain⟨us,n,g,q⟩:=d6 (I.rep _ _ e);show⟨us,q,w0 (I.rep _ _ e),.inl ⟨IsL.isList g,trivial⟩⟩
 ·obtain⟨us,g,q⟩:=lI (I.rep _ _ e);show⟨us,q,K1 (I.rep _ _ e),.inr g⟩
 ·obtain⟨us,g,q⟩:=Ud (I.rep _ _ e);show⟨us,q,Ue (I.rep _ _ e),.inl ⟨g,trivial⟩⟩
def Vx{E:Value->Shared->Prop}{s0:Shared}(x:At J w bz nil Y0 s0 Y s)(r:aF vs xs)(h:bi .len xs Q Y) :
  wpAny (model J w) A (call (.builtin "len") vs) (GE J w bz Y0 s0 Q) E s:=by
 exact cU h r λ_ _ hv h=>aM h hv λa h=>?_;obtain⟨xs,e,h⟩:=Kn h;obtain⟨us,q,le,g⟩:=LX x.2.1 e;rcases g with⟨g,_⟩ | g
 ·exact call_len_list g (by rw[sz,q.len];show Int.lt_of_le_of_lt (Int.ofNat_le.mpr le) (by decide)) ⟨_,Y,?_,h,x.toks⟩;rw[sz,q.len];show .int _ _
 ·exact PyProof.Rows.len_tuple g (by rw[sz,q.len];show Int.lt_of_le_of_lt (Int.ofNat_le.mpr le) (by decide)) ⟨_,Y,?_,h,x.toks⟩;rw[sz,q.len];show .int _ _
def Vy{E:Value->Shared->Prop}{s0:Shared}(x:At J w bz nil Y0 s0 Y s)(r:aF vs xs)(h:bi .lst xs Q Y) :
  wpAny (model J w) A (call (.type "list") vs) (GE J w bz Y0 s0 Q) E s:=by
 exact cU h r λ_ _ hv h=>aM h hv λa h=>?_;obtain⟨xs,e,h⟩:=Kn h;obtain⟨us,q,_,g⟩:=LX x.2.1 e;have hl:xs.length<100000:=h.1;obtain⟨T,o,n,hT,ho,hc,hd⟩:∃T o n,(T="list"\/T="tuple")/\s.heap.get? a=some o/\o.cls=.type T/\o.data=.seq us.toArray n:=by
  rcases g with⟨⟨o,ho,hc,n,hd⟩,_⟩ | ⟨o,ho,hc,n,hd⟩
  ·show⟨_,o,n,.inl rfl,ho,hc,hd⟩
  ·show⟨_,o,n,.inr rfl,ho,hc,hd⟩
 exact call_list_seq a hT ho hc hd (λh1 c k g=>?_) (by rw[sz,q.len];show qe hl);show GE.listAt (tk:=s.toks) x q h.2 (Nat.le_trans (Nat.le_of_lt hl) (by decide)) (i5 _) k g
def Vz{E:Value->Shared->Prop}{s0:Shared}(x:At J w bz nil Y0 s0 Y s)(r:aF vs xs)(h:bi .abs xs Q Y) :
  wpAny (model J w) A (call (.builtin "abs") vs) (GE J w bz Y0 s0 Q) E s:=by
 exact cU h r λ_ _ hv h=>az h hv λi t h=>call_abs_int λu tk=>⟨_,Y,.int _ _,?_,x.toks⟩;have e:(if i<0 then -i else i)=(i.natAbs:Int):=by
  split<;>rename_i z
  ·show(Int.ofNat_natAbs_of_nonpos (il z)).symm
  ·show(Int.natAbs_of_nonneg (Int.not_lt.mp z)).symm
 rw[e];show h
def VA{E:Value->Shared->Prop}{s0:Shared}(hh:A.handled=none)(x:At J w bz nil Y0 s0 Y s)(r:aF vs xs)(h:bi .min xs Q Y) :
  wpAny (model J w) A (call (.builtin "min") vs) (GE J w bz Y0 s0 Q) E s:=by
 exact qa h r λ_ _ _ _ hv hu h=>az h hv λi t h=>az h hu λj u h=>min_two_ints hh λh1 tk k=>⟨_,Y,?_,h,x.grow k⟩;split<;>show .int _ _
def VB{E:Value->Shared->Prop}{s0:Shared}(hh:A.handled=none)(x:At J w bz nil Y0 s0 Y s)(r:aF vs xs)(h:bi .max xs Q Y) :
  wpAny (model J w) A (call (.builtin "max") vs) (GE J w bz Y0 s0 Q) E s:=by
 exact qa h r λ_ _ _ _ hv hu h=>az h hv λi t h=>az h hu λj u h=>max_two_ints hh λh1 tk k=>⟨_,Y,?_,h,x.grow k⟩;by_cases hc:i<j
 ·rw[if_pos hc,if_pos hc];show .int _ _
 ·rw[if_neg hc,if_neg hc];show .int _ _
theorem VD{E:Value->Shared->Prop}{s0:Shared}(x:At J w bz nil Y0 s0 Y s)(r:aF vs xs)(h:dh xs λv=>bN v λ_=>Q (.bool false) Y) :
  wpAny (model J w) A (call (.builtin "isinstance") (vs++[.type "bool"])) (GE J w bz Y0 s0 Q) E s:=
 cU h r λ_ _ hv h=>az h hv λ_ _ h=>PySem.IsiPair.int_bool ⟨_,Y,.bool _,h,x.toks⟩
def insI_perm(x:Int):∀l:List Int,(insI x l).Perm (x::l):=by
 intro zl;induction zl with
 |nil=>
  show .refl _
 |cons y r ih=>
  dsimp only[insI];split
  ·show((ih).cons y).trans (.swap x y r)
  ·show .refl _
def sortI_perm:∀l:List Int,(sortI l).Perm l:=by
 intro zl;induction zl with
 |nil=>
  show .refl _
 |cons x r ih=>
  show(insI_perm x (sortI r)).trans ((ih).cons x)
def VF(x:Int):∀{l:List Int},l.Pairwise (·<=·)->(insI x l).Pairwise (·<=·):=by
 intro zl;induction zl with
 |nil=>
  intro _;dsimp only[insI];simp
 |cons y r ih=>
  intro h;rw[List.pairwise_cons] at h;dsimp only[insI];split
  ·rename_i hy;rw[List.pairwise_cons];exact⟨λz hz=>?_,ih h.2⟩;rcases aO.mp ((insI_perm x r).mem_iff.mp hz) with rfl | hz
   ·show hy
   ·show h.1 z hz
  ·rename_i hy;rw[List.pairwise_cons,List.pairwise_cons];exact⟨λz hz=>?_,h⟩;rcases aO.mp hz with rfl | hz
   ·show⟨"a:b,!b:a",hy⟩
   ·have:=h.1 z hz;show⟨"a:b,!c:a,c:b",hy,this⟩
def VG:∀l:List Int,(sortI l).Pairwise (·<=·):=by
 intro zl;induction zl with
 |nil=>
  show .nil
 |cons x r ih=>
  show VF x (ih)
def VH{ns:List Int}(h:IntsAre vs ns):aF vs (ns.map V.int):=by
 induction h with
 |nil=>show .nil
 |cons n t _ ih=>show .cons (.int n t) ih
def VJ{E:Value->Shared->Prop}{s0:Shared}{a:Nat}{l:List Int}(x:At J w bz nil Y0 s0 Y s)(e:Y a=some (.lst (l.map V.int)))(hl:l.length<64)(q:new (.lst ((sortI l).map V.int)) Q Y) :
  wpAny (model J w) A (call (.builtin "sorted") [.ref a]) (GE J w bz Y0 s0 Q) E s:=by
 obtain⟨us,n,g,r⟩:=d6 (x.2.1.rep _ _ e);have hlen:us.length=l.length:=by rw[r.len,dT]
 exact sorted_ints (IsL.isList g) r.ints ⟨"A>64,B>64,A~B",hl,hlen⟩ λout r4 h1 h2 h3=>?_;have es:r4=sortI l:=ksm_same (h2.trans (sortI_perm l).symm) h3 (VG l);subst es;obtain⟨ep,g'⟩:=sortedAll_at s.heap us out;exact GE.listAt (tk:=s.toks) x (VH h1) q (by rw[dT,h2.length_eq];show⟨"A.200000,A>64",hl⟩) (om (Nat.le_succ _)) (λb o e=>sortedAll_old e) (n:=ep) ?_;rw[g']
set_option tactic.hygienic true
def lL{α:Type}(b:Nat->Nat->Bool)(n:Nat):KasT α->Option α
 | .ret a=>some a
 | .ask i j k=>if i<n/\j<n/\i≠j then lL b n (k (b i j)) else none
theorem LY{α:Type}{b c:Nat->Nat->Bool}(h:∀i j,i<n->j<n->i≠j->b i j=c i j):∀t:KasT α,lL b n t=lL c n t
 | .ret a=>rfl
 | .ask i j k=>by
  dsimp only[lL];by_cases q:i<n/\j<n/\i≠j
  ·rw[if_pos q,if_pos q,h i j q.1 q.2.1 q.2.2];show LY h _
  ·rw[if_neg q,if_neg q]
theorem LZ{α:Type}{b:Nat->Nat->Bool}{cmp:Nat->Nat->(Bool->Shared->Prop)->Shared->Prop}(h:∀i j,i<n->j<n->i≠j->∀C:Bool->Shared->Prop,C (b i j) s->cmp i j C s):∀{t:KasT α}{a:α},lL b n t=some a->∀{Q:α->Shared->Prop},Q a s->t.kasWp cmp Q s
 | .ret a,_,e,_,q=>by cases e;show q
 | .ask i j k,a,e,Q,q=>by
  dsimp only[lL] at e;by_cases c:i<n/\j<n/\i≠j
  ·rewrite [if_pos c] at e;show h i j c.1 c.2.1 c.2.2 _ (LZ h e q)
  ·nomatch if_neg c,e
def Ee(x:Bool)(i j:Nat):Bool:=match i,j with
 |0,1=>x
 |1,0=>!x
 |_,_=>false
def Ef(x y z:Bool)(i j:Nat):Bool:=match i,j with
 |0,1=>x
 |0,2=>y
 |1,2=>z
 |1,0=>!x
 |2,0=>!y
 |2,1=>!z
 |_,_=>false
def Be(b:Nat->Nat->Bool)(n:Nat)(o:Option (Array Nat)):Bool:=match o with
 |some p=>p.toList.isPerm (List.range n) && decide (p.toList.Pairwise λi j=>b i j=true)
 |none=>false
def VK:∀x:Bool,Be (Ee x) 2 (lL (Ee x) 2 (kas_sort 2))=true:=by decide +kernel
def VL:∀x y z:Bool,(x && z && !y || !x && !z && y)=false->Be (Ef x y z) 3 (lL (Ef x y z) 3 (kas_sort 3))=true:=by decide +kernel
def VM{b:Nat->Nat->Bool}{o:Option (Array Nat)}(h:Be b n o=true):∃p,o=some p/\p.toList.Perm (List.range n)/\p.toList.Pairwise λi j=>b i j=true:=by
 cases o with
 |none=>cases h
 |some p=>
  have h:=mW.mp (show(p.toList.isPerm (List.range n) && decide (p.toList.Pairwise λi j=>b i j=true))=true from h);show⟨p,rfl,List.isPerm_iff.mp h.1,kG h.2⟩
theorem Eg(h:i<2):i=0\/i=1:=(Nat.lt_or_eq_of_le (Nat.le_of_lt_succ h)).elim (λh=>.inl (Nat.lt_one_iff.mp h)) .inr
theorem Eh(h:i<3):i=0\/i=1\/i=2:=(Nat.lt_or_eq_of_le (Nat.le_of_lt_succ h)).elim (λh=>(Eg h).imp id .inl) λe=>.inr (.inr e)
def Bf{a b:Int}(h:a≠b):decide (b<a)=!decide (a<b):=by
 by_cases q:a<b
 ·rw[dJ q,fS (Int.not_lt.mpr (il q))];rfl
 ·rw[fS q,dJ (Int.lt_iff_le_and_ne.mpr ⟨Int.not_lt.mp q,h.symm⟩)];rfl
def VN{a b c:Int}:(decide (a<b) && decide (b<c) && !decide (a<c) || !decide (a<b) && !decide (b<c) && decide (a<c))=false:=by
 by_cases y:a<c
 ·rw[dJ y];by_cases x:a<b
  ·rw[dJ x];cases decide (b<c)<;>rfl
  ·rw[fS x,dJ (Int.lt_of_le_of_lt (Int.not_lt.mp x) y)];rfl
 ·rw[fS y];by_cases x:a<b
  ·rw[dJ x,fS λh=>y (Int.lt_trans x h)];rfl
  ·rw[fS x];cases decide (b<c)<;>rfl
def VP(nd:ks.Nodup)(h2:2<=ks.length)(h3:ks.length<=3):∃p,lL (λi j=>decide (ks.getD i 0<ks.getD j 0)) ks.length (kas_sort ks.length)=some p/\p.toList.Perm (List.range ks.length)/\p.toList.Pairwise λi j=>ks.getD i 0<ks.getD j 0:=by
 have fin:∀{c:Nat->Nat->Bool},(∀i j,i<ks.length->j<ks.length->i≠j->decide (ks.getD i 0<ks.getD j 0)=c i j)->Be c ks.length (lL c ks.length (kas_sort ks.length))=true->∃p,lL (λi j=>decide (ks.getD i 0<ks.getD j 0)) ks.length (kas_sort ks.length)=some p/\p.toList.Perm (List.range ks.length)/\p.toList.Pairwise λi j=>ks.getD i 0<ks.getD j 0:=λ{c} hc hg=>by
  obtain⟨p,e1,e2,e3⟩:=VM hg;exact⟨p,(LY hc _).trans e1,e2,?_⟩;have bC:p.toList.Nodup:=e2.nodup_iff.mpr List.nodup_range;have:p.toList.Pairwise λi j=>i<ks.length/\j<ks.length/\i≠j/\c i j=true:=by
   exact List.Pairwise.imp_of_mem ?_ (bC.and e3);intro i j hi hj h;show⟨List.mem_range.mp (e2.mem_iff.mp hi),List.mem_range.mp (e2.mem_iff.mp hj),h.1,h.2⟩
  exact this.imp λ{i j} h=>?_
  have:=hc i j h.1 h.2.1 h.2.2.1
  rewrite [h.2.2.2] at this
  show kG this
 rcases ks with _ | ⟨k0,_ | ⟨k1,_ | ⟨k2,_ | ⟨k3,ks⟩⟩⟩⟩
 ·simp at h2
 ·simp at h2
 ·rewrite [bS,List.mem_singleton] at nd
  exact fin (c:=Ee (decide (k0<k1))) (λi j hi hj hn=>?_) (VK _);rcases Eg hi with rfl | rfl<;>rcases Eg hj with rfl | rfl<;>first | show absurd rfl hn | rfl | show Bf nd.1
 ·rewrite [bS,bS,aO,List.mem_singleton,List.mem_singleton,not_or] at nd
  exact fin (c:=Ef (decide (k0<k1)) (decide (k0<k2)) (decide (k1<k2))) (λi j hi hj hn=>?_) (VL _ _ _ VN);rcases Eh hi with rfl | rfl | rfl<;>rcases Eh hj with rfl | rfl | rfl<;>first | show absurd rfl hn | rfl | show Bf nd.1.1 | show Bf nd.1.2 | show Bf nd.2.1
 ·simp at h3
class inductive PT(h:Heap):List Nat->List Int->Prop
 |nil:PT h [] []
 |cons {a:Nat}{o:Obj}{i j:Int}{t u:Tok}{n:Nat}{as:List Nat}{ks:List Int}:h.get? a=some o->o.cls=.type "tuple"->o.data=.seq #[.int i t,.int j u] n->PT h as ks->PT h (a::as) (i::ks)
def PT.len(x:PT h as ks):as.length=ks.length:=by
 induction x with
 |nil=>rfl
 |cons _ _ _ _ ih=>simp[ih]
def PT.keep(x:PT h as ks)(k:∀b o,b∈as->h.get? b=some o->o.cls=.type "tuple"->h'.get? b=some o):PT h' as ks:=by
 induction x with
 |nil=>show .nil
 |cons a b c _ ih=>show .cons (k _ _ (.head _) a b) b c (ih λb' o' m=>k b' o' (.tail _ m))
def PT.at(x:PT h as ks):∀{i:Nat},i<as.length->∃o t j u n,h.get? (as.getD i 0)=some o/\o.cls=.type "tuple"/\o.data=.seq #[.int (ks.getD i 0) t,.int j u] n:=by
 induction x with
 |nil=>intro i h;cases h
 |cons a b c _ ih=>intro i h;cases i with
  |zero=>show⟨_,_,_,_,_,a,b,c⟩
  |succ i=>simp at h;show ih h
def PT.VQ(x:PT h as ks):∃fs:List Value,KatTups h (as.map Value.ref) fs/\fs.length=as.length/\∀v∈fs,∃i t,v=.int i t:=by
 induction x with
 |nil=>show⟨[],KatTups.nil,rfl,λv hv=>by cases hv⟩
 |cons a b c _ ih=>
  obtain⟨fs,h1,h2,h3⟩:=ih;exact⟨_::fs,KatTups.cons a b c (f:=.int _ _) rfl h1,by simp[h2],λv hv=>?_⟩;rcases aO.mp hv with rfl | hv
  ·show⟨_,_,rfl⟩
  ·show h3 v hv
def Ei(h:i<as.length):(as.map Value.ref).getD i Value.none=.ref (as.getD i 0):=by
 simp[oq,bL h]
def VW(x:PT s.heap as ks)(nd:ks.Nodup){j:Nat}(hi:i<ks.length)(hj:j<ks.length)(hn:i≠j){C:Bool->Shared->Prop}(h:C (decide (ks.getD i 0<ks.getD j 0)) s) :
  kas_ask J w A (tuples' true) (as.map Value.ref) i j C s:=by
 have hl:=x.len;unfold kas_ask;rw[Ei ⟨"A>B,A>C,B~C;1,1,-1",hi,hl⟩,Ei ⟨"A>B,A>C,B~C;1,1,-1",hj,hl⟩];obtain⟨o,t,a,u,n,e1,e2,e3⟩:=x.at (i:=i) ⟨"A>B,A>C,B~C;1,1,-1",hi,hl⟩;obtain⟨o',t',a',u',n',f1,f2,f3⟩:=x.at (i:=j) ⟨"A>B,A>C,B~C;1,1,-1",hj,hl⟩;exact kat_lt e1 e3 f1 f3 (kat_cons (wpAny_eqBool_int ?_));have au:(ks.getD i 0 == ks.getD j 0)=false:=by
  rw[mX];intro q
  rewrite [oq,oq,bL hi,bL hj] at q
  show hn ((List.getElem_inj nd).mp q)
 rw[au];show kat_no (oneLt_int h)
def L0{E:Value->Shared->Prop}{a:Addr}{P:PySem.Fin->Shared->Prop}(ho:s.heap.get? a=some (seqObj "list" (as.map Value.ref).toArray n))(x:PT s.heap as ks)(nd:ks.Nodup)(h3:ks.length<=3)
  (h:∀zs:List (Int×Nat),zs.Perm (ks.zip as)->zs.Pairwise (λp q=>p.1<q.1)->P (.done (.ret .none)) { s with heap:=sortedHeap s.heap a (as.map Value.ref) (zs.map λp=>Value.ref p.2).toArray}) :
  wpAny (model J w) A (Builtin.«list.sort» ⟨[.ref a],[]⟩) P E s:=by
 have hl:=x.len;rw[list_sort_plain];have ha:a<s.heap.objs.size:=dK ho;have hz:(as.map Value.ref).toArray.size<=sizeLine:=by rw[sz,dT,sizeLine_eq];show⟨"A.16777216,B.3,A~B",h3,hl⟩
 exact wb (listItems_at ho rfl ?_);exact wb (listUpdate_at ho rfl ?_ hz (Nat.zero_le _));obtain⟨e1,Bg⟩:∃e1,(s.heap.update a (Obj.mapSeq λ_=>#[])).get? a=some (seqObj "list" #[] e1):=⟨_,get?_update_seq ho (λ_=>#[])⟩;exact wb (seqEpoch_at Bg rfl ?_);exact wb (wpAny_newTuple ?_ (by show(as.map Value.ref).length<=_;rw[dT,sizeLine_eq];show⟨"A.16777216,B.3,A~B",h3,hl⟩));exact wb (wpAny_newList ?_ (Nat.zero_le _));exact fI ?_;have Bh:(((s.heap.update a (Obj.mapSeq λ_=>#[])).push (seqObj "tuple" (as.map Value.ref).toArray 0)).push (seqObj "list" #[] 0)).get? a=some (seqObj "list" #[] e1):=by
  rw[Heap.get?_push_ne _ _ _ (by rw[size_push',Heap.size_update];show fU (Nat.lt_succ_of_lt ha)),Heap.get?_push_ne _ _ _ (by rw[Heap.size_update];show fU ha)];show Bg
 have x6:PT (((s.heap.update a (Obj.mapSeq λ_=>#[])).push (seqObj "tuple" (as.map Value.ref).toArray 0)).push (seqObj "list" #[] 0)) as ks:=x.keep λb o _ e hc=>by
  exact cf _ (cf _ ?_);rw[Heap.get?_update_ne _ _ _ _ (λq=>?_)]
  ·show e
  ·clear h ha Bg Bh;subst q;rewrite [ho] at e;obtain rfl:=dW e;simp at hc
 show wpAny (model J w) A _ P E { s with heap:=((s.heap.update a (Obj.mapSeq λ_=>#[])).push (seqObj "tuple" (as.map Value.ref).toArray 0)).push (seqObj "list" #[] 0)}
 dsimp only;have hS:∀out,(((s.heap.update a (Obj.mapSeq λ_=>#[])).push (seqObj "tuple" (as.map Value.ref).toArray 0)).push (seqObj "list" #[] 0)).update a (Obj.mapSeq λ_=>out)=sortedHeap s.heap a (as.map Value.ref) out:=λ_=>rfl;generalize ((s.heap.update a (Obj.mapSeq λ_=>#[])).push (seqObj "tuple" (as.map Value.ref).toArray 0)).push (seqObj "list" #[] 0)=H at Bh x6 hS ⊢;clear Bg x;have fin:∀ft:SortSt,failedOf ft=none->(∃zs:List (Int×Nat),zs.Perm (ks.zip as)/\zs.Pairwise (λp q=>p.1<q.1)/\(arrOf ft).map (·.2)=(zs.map λp=>Value.ref p.2).toArray) ->
   wpAny (model J w) A (do
    let touched:=(<-seqEpoch a) != e1
    Builtin.List.listUpdate (.ref a) λ_=>(arrOf ft).map (·.2)
    if let some e:=failedOf ft then rule "list.sort.comparison-raised";throw e
    if touched then rule "list.sort.modified";raiseError "ValueError" "list modified during sort"
    ret .none) P E { s with heap:=H}:=by
  rintro ft hf ⟨zs,hp,hs,ho⟩;have r5:zs.length<=3:=by rw[hp.length_eq,List.length_zip];show⟨"A.3,B.3,A.B",h3,Nat.min_le_left _ _⟩
  exact wb (seqEpoch_at Bh rfl ?_);exact wb (listUpdate_at Bh rfl ?_ (Nat.zero_le _) (by rw[ho];show(zs.map _).toArray.size<=_;rw[sz,dT,sizeLine_eq];show⟨"A.16777216+1,A.3",r5⟩));rw[hf];simp only[bne_self_eq_false,Bool.false_eq_true,if_false];rw[ho];have z:=h zs hp hs
  rewrite [<-hS] at z
  show aL z
 by_cases h2:(as.map Value.ref).toArray.size<2
 ·rw[if_pos h2,if_pos h2];exact wb (aL ?_);rw[StateT.run_pure];exact wb (aL ?_);exact fin _ rfl ⟨ks.zip as,.refl _,?_,?_⟩
  ·rewrite [sz,dT] at h2
   rcases as with _ | ⟨a0,_ | ⟨a1,as⟩⟩
   ·simp
   ·rcases ks with _ | ⟨k0,_ | ⟨k1,ks⟩⟩<;>simp
   ·simp at h2;show False.elim ⟨"_,A+1+1>2",h2⟩
  ·show(Array.zip _ _).map (·.2)=_;rcases as with _ | ⟨a0,_ | ⟨a1,as⟩⟩
   ·simp
   ·rcases ks with _ | ⟨k0,_ | ⟨k1,ks⟩⟩
    ·cases hl
    ·simp
    ·cases hl
   ·simp at h2;show False.elim ⟨"_,A+1+1>2",h2⟩
 ·rw[if_neg h2,if_neg h2]
  rewrite [sz,dT] at h2
  obtain⟨fs,t1,t2,t3⟩:=x6.VQ;exact wb (kat_kind t1 (T:=.type "int") ⟨"0>A,!B>2,A~B;1,1,-1",h2,t2⟩ (λv hv=>?_) rfl ?_)
  ·obtain⟨i,t,rfl⟩:=t3 v hv;show Looks.of_pure rfl
  ·obtain⟨p,r1,r2,r3⟩:=VP nd ⟨"2.A,B~A,!B>2",hl,h2⟩ h3;have Ej:(as.map Value.ref).length=ks.length:=by rw[dT,hl]
   exact wb (bB (kat_run (κ:=tuples' true) (ks:=as.map Value.ref) (vs:=as.map Value.ref) (Q:=λft s'=>s'={ s with heap:=H}/\failedOf ft=none/\(arrOf ft).map (·.2)=List.toArray (p.toList.map λi=>(as.map Value.ref).getD i Value.none))
    (G:=λp' s'=>p'=p/\s'={ s with heap:=H}) rfl ⟨"2.A,B~C,!B>2,A~C;1,1,1,-1",hl,h2,Ej⟩ ⟨"A>64,B.3,A~B",h3,Ej⟩ (λp' ft s' a1 a2 a3 a4=>?_) ?_) ?_ λ_ _ e=>e)
   ·obtain⟨rfl,rfl⟩:=a4;show⟨rfl,a3,kat_snds rfl a2⟩
   ·rw[Ej];show LZ (λi j hi hj hn C hC=>VW x6 nd hi hj hn hC) r1 ⟨rfl,rfl⟩
   ·rintro⟨⟨⟩,ft⟩ s' ⟨rfl,hf,oO⟩;exact fin ft hf ⟨p.toList.map λi=>(ks.getD i 0,as.getD i 0),?_,?_,?_⟩
    ·have e:ks.zip as=(List.range ks.length).map λi=>(ks.getD i 0,as.getD i 0):=by
      apply List.ext_getElem
      ·simp[hl]
      ·intro i h1 h2
       rewrite [List.length_zip] at h1
       have L1:i<ks.length:=⟨"A>B,A>C,C.B",h1,Nat.min_le_left _ _⟩;have VX:i<as.length:=⟨"A>B,B~C,A>C;1,-1,1",hl,L1⟩;simp[oq,bL L1,bL VX]
     rw[e];show r2.map _
    ·rw[List.pairwise_map];show r3
    ·dsimp only at oO ⊢;rw[oO,List.map_map]
     congr 1
     exact List.map_congr_left λi hi=>?_;have:=List.mem_range.mp (r2.mem_iff.mp hi);show Ei ⟨"A>B,B~C,A>C;1,-1,1",hl,this⟩
set_option tactic.hygienic false
def L3(x:Int×V):∀l:List (Int×V),(lB x l).Perm (x::l):=by
 intro zl;induction zl with
 |nil=>
  show .refl _
 |cons y r ih=>
  dsimp only[lB];split
  ·show((ih).cons y).trans (.swap x y r)
  ·show .refl _
def Bj:∀l:List (Int×V),(hJ l).Perm l:=by
 intro zl;induction zl with
 |nil=>
  show .refl _
 |cons x r ih=>
  show(L3 x (hJ r)).trans ((ih).cons x)
def VY(x:Int×V):∀{l:List (Int×V)},l.Pairwise (λp q=>p.1<=q.1)->(lB x l).Pairwise λp q=>p.1<=q.1:=by
 intro zl;induction zl with
 |nil=>
  intro _;dsimp only[lB];simp
 |cons y r ih=>
  intro h;rw[List.pairwise_cons] at h;dsimp only[lB];split
  ·rename_i hy;rw[List.pairwise_cons];exact⟨λz hz=>?_,ih h.2⟩;rcases aO.mp ((L3 x r).mem_iff.mp hz) with rfl | hz
   ·show⟨"a:b,a<b",hy⟩
   ·show h.1 z hz
  ·rename_i hy;rw[List.pairwise_cons,List.pairwise_cons];exact⟨λz hz=>?_,h⟩;rcases aO.mp hz with rfl | hz
   ·show⟨"a:b,!b<a",hy⟩
   ·have:=h.1 z hz;show⟨"a:b,!c<a,c:b",hy,this⟩
def L4:∀l:List (Int×V),(hJ l).Pairwise λp q=>p.1<=q.1:=by
 intro zl;induction zl with
 |nil=>
  show .nil
 |cons x r ih=>
  show VY x (ih)
def VZ{α:Type}{l:List (Int×α)}(nd:(l.map (·.1)).Nodup){p q:Int×α}(hp:p∈l)(hq:q∈l)(e:p.1=q.1):p=q:=by
 induction l with
 |nil=>cases hp
 |cons a r ih=>
  rw[dU,bS] at nd;rcases aO.mp hp with e1 | oP<;>rcases aO.mp hq with e2 | bG
  ·rw[e1,e2]
  ·show absurd (bJ.mpr ⟨q,bG,by rw[<-e,e1]⟩) nd.1
  ·show absurd (bJ.mpr ⟨p,oP,by rw[e,e2]⟩) nd.1
  ·show ih nd.2 oP bG
theorem V0{qs:List (Int×V)}(nd:(ps.map (·.1)).Nodup)(hp:qs.Perm ps)(hs:qs.Pairwise λp q=>p.1<q.1):hJ ps=qs:=
 ((Bj ps).trans hp.symm).eq_of_pairwise (le:=λp q=>p.1<=q.1) (λa b ha hb h1 h2=>VZ nd ((Bj ps).mem_iff.mp ha) (hp.mem_iff.mp hb) ⟨"a=b,a:b,b:a;1,1,0;1,0,1",h1,h2⟩) (L4 ps) (hs.imp λh=>⟨"a:b,a<b",h⟩)
def V1{E:Value->Shared->Prop}{l:Addr}{Q:Value->Shared->Prop}(hl:s.heap.IsList l (as.map Value.ref).toArray)(x:PT s.heap as ks)(nd:ks.Nodup)(h3:ks.length<=3)
  (h:∀zs:List (Int×Nat),zs.Perm (ks.zip as)->zs.Pairwise (λp q=>p.1<q.1)->Q (.ref (s.heap.objs.size+1)) { s with heap:=sortedAll s.heap (as.map Value.ref) (zs.map λp=>Value.ref p.2).toArray}) :
  wpAny (model J w) A (call (.builtin "sorted") [.ref l]) Q E s:=by
 have hz:(as.map Value.ref).length<=sizeLine:=by rw[dT,x.len,sizeLine_eq];show⟨"A.16777216,A.3",h3⟩
 exact Calls.call_function_entry kind_sorted plain_sorted entry_sorted (args_sorted1 _) ?_;unfold Builtin.«sorted»;exact wb (m:=checkCount "sorted" 1 1 _) (aL ?_);exact wb (collect_list hl ?_ hz);exact wb (wpAny_newList ?_ hz);have dp:((s.heap.push (seqObj "list" #[] 0)).update s.heap.objs.size (Obj.mapSeq (·++(as.map Value.ref).toArray))).objs.size=s.heap.objs.size+1:=by
  rw[Heap.size_update,size_push']
 have L5:(((s.heap.push (seqObj "list" #[] 0)).update s.heap.objs.size (Obj.mapSeq (·++(as.map Value.ref).toArray))).push (seqObj "list" (as.map Value.ref).toArray 0)).get? (s.heap.objs.size+1)=some (seqObj "list" (as.map Value.ref).toArray 0):=by
  rw[<-dp];show ik _ rfl
 have x':PT (((s.heap.push (seqObj "list" #[] 0)).update s.heap.objs.size (Obj.mapSeq (·++(as.map Value.ref).toArray))).push (seqObj "list" (as.map Value.ref).toArray 0)) as ks:=x.keep λb o _ e _=>by
  have kZ:b<s.heap.objs.size:=dK e;rw[Heap.get?_push_ne _ _ _ (by rw[dp];show fU (Nat.lt_succ_of_lt kZ)),Heap.get?_update_ne _ _ _ _ (fU kZ),Heap.get?_push_ne _ _ _ (fU kZ)];show e
 show wpAny _ _ _ _ _ { s with heap:=((s.heap.push (seqObj "list" #[] 0)).update s.heap.objs.size (Obj.mapSeq (·++(as.map Value.ref).toArray))).push (seqObj "list" (as.map Value.ref).toArray 0)}
 rw[dp];exact wb (fI (wpAny_call_entry slot_list_sort ⟨_,L5,rfl⟩ entry_list_sort (L0 L5 x' nd h3 λzs a1 a2=>⟨_,rfl,?_⟩) (args_list_sort _)));show aL ⟨_,rfl,h zs a1 a2⟩
def V2(R:∀a o,Y a=some o->OR J w h a o)(x:Pairs Y xs ps):∀{us:List Value},aF us xs->∃as:List Nat,us=as.map Value.ref/\PT h as (ps.map (·.1))/\ps.map (·.2)=as.map V.ref:=by
 induction x with
 |nil=>intro us r;cases r;show⟨[],rfl,.nil,rfl⟩
 |cons e t ih=>
  intro us r;obtain _ | ⟨hv,r⟩:=r;rw[hv.oG];obtain⟨as,h1,h2,h3⟩:=ih r;obtain⟨ws,⟨o,ho,hc,n,hd⟩,q⟩:=lI (R _ _ e);obtain⟨t,u,rfl⟩:=q.two;show⟨_::as,by rw[h1];rfl,.cons ho hc hd h2,by rw[dU,dU,h3]⟩
def V3(e:ps.map (·.2)=as.map V.ref):ps=((ps.map (·.1)).zip as).map λp=>(p.1,V.ref p.2):=by
 induction ps generalizing as with
 |nil=>cases as<;>rfl
 |cons p r ih=>
  cases as with
  |nil=>cases e
  |cons a as=>
   rw[dU,dU] at e;obtain⟨e1,e2⟩:=List.cons.inj e;rw[dU,kH,dU,<-ih e2];obtain⟨i,v⟩:=p;dsimp only at e1 ⊢;rw[e1]
def L6:∀l:List Nat,aF (l.map Value.ref) (l.map V.ref):=by
 intro zl;induction zl with
 |nil=>
  show .nil
 |cons a l ih=>
  show .cons (.ref a) (ih)
def L7{zs:List (Int×Nat)}(e:ps.map (·.2)=as.map V.ref)(nd:(ps.map (·.1)).Nodup)(hp:zs.Perm ((ps.map (·.1)).zip as))(hs:zs.Pairwise λp q=>p.1<q.1):(hJ ps).map (·.2)=(zs.map (·.2)).map V.ref:=by
 have h1:(zs.map λp=>(p.1,V.ref p.2)).Perm ps:=by
  conv=>rhs;rw[V3 e]
  show hp.map _
 rw[V0 nd h1 (by rw[List.pairwise_map];show hs),List.map_map,List.map_map];rfl
def V4{E:Value->Shared->Prop}{s0:Shared}{a:Nat}(x:At J w bz nil Y0 s0 Y s)(e:Y a=some (.lst xs))(hp:Pairs Y xs ps)(nd:(ps.map (·.1)).Nodup)(h3:ps.length<=3)(q:new (.lst ((hJ ps).map (·.2))) Q Y) :
  wpAny (model J w) A (call (.builtin "sorted") [.ref a]) (GE J w bz Y0 s0 Q) E s:=by
 obtain⟨us,n,g,r⟩:=d6 (x.2.1.rep _ _ e);obtain⟨as,rfl,h1,h2⟩:=V2 x.2.1.rep hp r;exact V1 (IsL.isList g) h1 nd (by rw[dT];show h3) λzs z1 z2=>?_;obtain⟨ep,g'⟩:=sortedAll_at s.heap (as.map Value.ref) (zs.map λp=>Value.ref p.2).toArray;rw[L7 h2 nd z1 z2] at q;exact GE.listAt (tk:=s.toks) x (vs:=(zs.map (·.2)).map Value.ref) (L6 _) q ?_ (om (Nat.le_succ _)) (λb o e=>sortedAll_old e) (n:=ep) ?_
 ·rw[dT,dT,z1.length_eq,List.length_zip,dT];show⟨"A.200000,B.3,A.B",h3,Nat.min_le_left _ _⟩
 ·rw[g',List.map_map];rfl
def At.V5{s0:Shared}{a:Nat}(x:At J w bz own Y0 s0 Y s)(hn:Y a=none)(hs:s0.heap.get? a=none)(r:OR J w s.heap a (.tup xs)):At J w bz own Y0 s0 (Tactic.put Y a (.tup xs)) s:=by
 obtain⟨⟨h,t,e⟩,I,S⟩:=x;have da:∀b d,bj (Tactic.put Y a (.tup xs)) s.heap b d↔bj Y s.heap b d:=by
  intro b d;constructor
  ·rintro⟨c,fs,ox,e,hx,hd⟩;rcases hO e with⟨rfl,e'⟩ | ⟨au,e'⟩
   ·cases e'
   ·show⟨c,fs,ox,e',hx,hd⟩
  ·rintro⟨c,fs,ox,e,hx,hd⟩;have au:b≠a:=λq=>by subst q;nomatch hn,e
   show⟨c,fs,ox,by rw[dO au];show e,hx,hd⟩
 have mu:∀b,aD (Tactic.put Y a (.tup xs)) s.heap b↔aD Y s.heap b:=by
  intro b;unfold aD;simp only[da];constructor
  ·rintro(⟨q,e,m⟩ | y)
   ·rcases hO e with⟨rfl,rfl⟩ | ⟨_,e'⟩
    ·cases m
    ·show .inl ⟨q,e',m⟩
   ·show .inr y
  ·rintro(⟨q,e,m⟩ | y)
   ·have au:b≠a:=λq=>by subst q;nomatch hn,e
    show .inl ⟨q,by rw[dO au];show e,m⟩
   ·show .inr y
 exact⟨⟨h,t,e⟩,⟨I.stays,λb q e=>?_,λb ob e m=>I.old b ob e ((mu b).mp m),λb d y=>?_,λb c d y z=>I.inj b c d ((da _ _).mp y) ((da _ _).mp z),I.tab⟩,⟨S.kp,λb o e n=>?_,λb o e n=>(dO λq=>by clear da hn mu r;subst q;nomatch hs,e).trans (S.nw b o e n)⟩⟩
 ·rcases hO e with⟨rfl,rfl⟩ | ⟨_,e'⟩
  ·show r
  ·show I.rep b q e'
 ·have y':=(da _ _).mp y;have au:d≠a:=λq=>by
   clear da hn hs mu y;subst q;obtain⟨es,n,e1⟩:=I.AX y';obtain⟨us,⟨o,ho,hc,n',hd⟩,_⟩:=lI r
   nomatch e1,ho;cases hd
  rw[dO au];show I.sep b d y'
 ·obtain⟨o',e1,e2,e3⟩:=S.st b o e n;show⟨o',e1,λm=>e2 ((mu b).mp m),e3⟩
def V6{K:List (Int×V)->So->Prop}{s0:Shared}:∀{as:List Nat}{acc:List (Int×V)}{Y:So},At J w bz own Y0 s0 Y s->as.length=es.length->as.Nodup->(∀a∈as,Y a=none)->(∀a∈as,s0.heap.get? a=none)->(∀(j a:Nat),as[j]?=some a->∃k x,es[j]?=some (k,x)/\OR J w s.heap a (.tup [.int k,x]))->rD K es acc Y ->
  ∃Y',K (acc++(es.map (·.1)).zip (as.map V.ref)) Y'/\At J w bz own Y0 s0 Y' s/\∀b,b∉as->Y' b=Y b:=by
 induction es with
 |nil=>
  intro as acc Y x hl _ _ _ _ h;have e:as=[]:=lA.mp hl;rw[e];show⟨Y,by have h':K acc Y:=h;simpa using h',x,λ_ _=>rfl⟩
 |cons p es ih=>
  obtain⟨k,v⟩:=p;intro as acc Y x hl nd hn hs hp h;cases as with
  |nil=>cases hl
  |cons a as=>
  rw[bS] at nd;obtain⟨k',v',e1,e2⟩:=hp 0 a rfl;cases e1;have h':rD K es (acc++[(k,.ref a)]) (put Y a (.tup [.int k,v])):=h a (hn a (.head _));obtain⟨Y',h1,h2,h3⟩:=ih (x.V5 (hn a (.head _)) (hs a (.head _)) e2) (by simpa using hl) nd.2 (λb hb=>by rw[dO (λq=>by clear e2 h' hl hn hp hs;subst q;show nd.1 hb)];show hn b (.tail _ hb)) (λb hb=>hs b (.tail _ hb)) (λj b hj=>hp (j+1) b hj) h';exact⟨Y',by simpa using h1,h2,λb hb=>?_⟩;rw[h3 b (λq=>hb (.tail _ q)),dO (λq=>by clear e2 h' h1 h3 hl hn hp hs nd;subst q;show hb (.head _))]
set_option tactic.hygienic true
theorem V7{a:E}{ex:Expr}(h:ay sc (.items a) ex=true):∃g gp v ap ps pos,ex=.Call (.Name g gp) [.Call (.Attribute v "items" ap) [] [] ps] [] pos/\jt sc g "sorted"=true/\ay sc a v=true/\(nu v && ap.endLine == ps.line)=true:=
 cG h λ_ _ _ q h=>bx h λg gp h=>bp h λ_ h=>cG h λ_ _ _ ps h=>fY h λv _ ap h=>rN h λa b c d e=>dN d λx y z=>aC x (aC y (aC z (fZ c ⟨g,gp,v,ap,ps,q,rfl,a,b,e⟩)))
def L8{E:Value->Shared->Prop}{Q:Value->Shared->Prop}(x:PT s.heap as ks)(nd:ks.Nodup)(h3:ks.length<=3)
  (h:∀(zs:List (Int×Nat)) (h':Heap) (e:Nat),zs.Perm (ks.zip as)->zs.Pairwise (λp q=>p.1<q.1)->Grows s.heap h'->h'.get? s.heap.objs.size=some (cR (zs.map λp=>Value.ref p.2) e)->Q (.ref s.heap.objs.size) { s with heap:=h'}) :
  wpAny (model J w) A (call (.builtin "list.sort") [.ref s.heap.objs.size]) (λ_ s'=>Q (.ref s.heap.objs.size) s') E { s with heap:=s.heap.push (cR (as.map Value.ref) 0)}:=by
 have ho:(s.heap.push (cR (as.map Value.ref) 0)).get? s.heap.objs.size=some (seqObj "list" (as.map Value.ref).toArray 0):=ik _ rfl;have x':PT (s.heap.push (cR (as.map Value.ref) 0)) as ks:=x.keep λb o _ e _=>cf _ e;exact wpAny_call_entry slot_list_sort ⟨_,ho,rfl⟩ entry_list_sort (L0 ho x' nd h3 λzs a1 a2=>⟨_,rfl,?_⟩) (args_list_sort _);obtain⟨e,he⟩:=sortedHeap_at (out:=(zs.map λp=>Value.ref p.2).toArray) ho;exact h zs _ e a1 a2 (λb o q=>?_) he;have kZ:=dK q;show(sortedHeap _ _ _ _).get? b=_;rw[sortedHeap_old (fU kZ) (by rw[size_push'];show Nat.lt_succ_of_lt kZ)];show cf _ q
theorem V8{a:Nat}{k:Int}{x:V}{t:Tok}(e:h.get? a=some o)(hc:o.cls=.type "tuple")(hd:o.data=.seq #[.int k t,v] n)(r:VR v x):OR J w h a (.tup [.int k,x]):=
 .tup (vs:=[.int k t,v]) ⟨o,e,hc,n,hd⟩ (.cons (.int _ _) (.cons r .nil)) (by show 2<=200000;show⟨"2.200000"⟩)
theorem V9{p:Int×V}(h:kL (p::es)):kL es:=λq hq=>h q (.tail _ hq)
def Wa(h:Kv kvs es)(ha:kL es):∀{j:Nat}{k:Int}{v:Value},kvs[j]?=some (k,v)->∃i t,v=.int i t/\es[j]?=some (k,.int i):=by
 induction h with
 |nil=>intro j k v e;simp at e
 |cons hv t ih=>
  intro j k v e;cases j with
  |zero=>
   simp at e;obtain⟨rfl,rfl⟩:=e;obtain⟨i,hi⟩:=ha _ (.head _);dsimp only at hi;subst hi;cases hv;show⟨_,_,rfl,rfl⟩
  |succ j=>show ih (V9 ha) (by simpa using e)
def Wb(hk:Kv kvs es)(ha:kL es){lo:Addr}(hl:as.length=kvs.length)(g:KdxG (intKind J w) kvs lo h as):PT h as (kvs.map (·.1))/\∀(j a:Nat),as[j]?=some a->∃k x,es[j]?=some (k,x)/\OR J w h a (.tup [.int k,x]):=by
 have one:∀(j a:Nat),as[j]?=some a->∃o k t i u n,kvs[j]?=some (k,.int i u)/\es[j]?=some (k,.int i)/\h.get? a=some o/\o.cls=.type "tuple"/\o.data=.seq #[.int k t,.int i u] n:=λj a hj=>by
  obtain⟨key,k,v,e1,e2,e3⟩:=g.pairs j a hj;obtain⟨i,u,rfl,e4⟩:=Wa hk ha e1;cases key with
  |int q t=>
   have:q=k:=by simpa [intKind,Value.isInt] using e2
   subst this;show⟨_,_,_,_,_,_,e1,e4,e3,rfl,rfl⟩
  |_=>show absurd e2 (by simp[intKind,Value.isInt])
 exact⟨?_,λj a hj=>?_⟩
 ·clear g hk ha;induction as generalizing kvs es with
  |nil=>clear one;cases kvs with
   |nil=>show .nil
   |cons _ _=>cases hl
  |cons a as ih=>
   cases kvs with
   |nil=>cases hl
   |cons p kvs=>
    obtain⟨o,k,t,i,u,n,e1,e2,e3,e4,e5⟩:=one 0 a rfl;simp at e1;subst e1;cases es with
    |nil=>simp at e2
    |cons q es=>
     exact .cons e3 e4 e5 (ih (es:=es) (by simpa using hl) λj b hj=>?_);have:=one (j+1) b (by simpa using hj)
     simpa using this
 ·obtain⟨o,k,t,i,u,n,e1,e2,e3,e4,e5⟩:=one j a hj;show⟨k,_,e2,V8 e3 e4 e5 (.int _ _)⟩
def Wc{E:Value->Shared->Prop}{s0:Shared}{r d:Nat}{uZ:Nat}(hh:A.handled=none)(x:At J w bz nil Y0 s0 Y s)(e:Y d=some (.aP es uZ))(hv:s.heap.IsItemsView r d)(ha:kL es)(nd:(es.map (·.1)).Nodup)(h3:es.length<=3)
  (q:rD (λps s=>new (.lst ((hJ ps).map (·.2))) Q s) es [] Y):wpAny (model J w) A (call (.builtin "sorted") [.ref r]) (GE J w bz Y0 s0 Q) E s:=by
 obtain⟨kvs,hD,hk⟩:=oI (x.2.1.rep _ _ e);obtain⟨ep,r6⟩:=hD.dictAt;have hlen:=hk.len;have dp:kvs.length<=sizeLine:=by rw[sizeLine_eq];show⟨"A.16777216,B.3,A~B",h3,hlen⟩
 exact call_function_entry kind_sorted plain_sorted entry_sorted (args_sorted1 _) ?_;unfold Builtin.«sorted»;exact wb (m:=checkCount "sorted" 1 1 _) (aL ?_);exact wb (kdx_collect (A:=A.in1) (knd:=intKind J w) (kvs:=kvs) (ep:=ep) hh hv r6 dp λh' tk as k hl hG=>?_);obtain⟨p1,p2⟩:=Wb hk ha hl hG;have x':At J w bz nil Y0 s0 Y { s with heap:=h',toks:=tk}:=x.grow k
 have Wd:as.Nodup:=hG.rise.imp λh=>fU h;have un:∀a∈as,Y a=none:=λa h=>x.2.1.unset (om (Nat.le_of_lt (hG.above a h)));have fr:∀a∈as,s0.heap.get? a=none:=λa h=>by
  cases e:s0.heap.get? a with
  |none=>rfl
  |some o=>
   obtain⟨o',e'⟩:=x.2.2.kp _ _ e;show absurd (dK e') (Nat.not_lt.mpr (Nat.le_of_lt (hG.above a h)))
 obtain⟨Y',i1,i2,i3⟩:=V6 x' (hl.trans hlen) Wd un fr p2 q;exact wb (wpAny_newList ?_ (by rw[dT,hl];show dp));have u0:(kvs.map (·.1)).Nodup:=by rw[hk.keys];show nd
 exact wb (fI (bB (L8 (s:={ s with heap:=h',toks:=tk}) (Q:=λv s'=>GE J w bz Y0 s0 Q v s') p1 u0 (by rw[dT,hlen];show h3) λ(zs:List (Int×Nat)) h2 e2 z1 z2 z3 z4=>?_) (λ_ s' y=>?_) λ_ _ e=>e))
 ·exact GE.listAt (tk:=tk) i2 (vs:=(zs.map (λp:Int×Nat=>p.2)).map Value.ref) (L6 _) (xs:=(zs.map (λp:Int×Nat=>p.2)).map V.ref) ?_ ?_ (i5 h') z3 (n:=e2) ?_
  ·have e3:(([]++(es.map (λp:Int×V=>p.1)).zip (as.map V.ref)).map λp:Int×V=>p.2)=as.map V.ref:=by
    rw[List.nil_append,List.map_snd_zip];simp[hl,hlen]
   have e4:(([]++(es.map (λp:Int×V=>p.1)).zip (as.map V.ref)).map λp:Int×V=>p.1)=kvs.map λp:Int×Value=>p.1:=by
    rw[List.nil_append,List.map_fst_zip,hk.keys];simp[hl,hlen]
   have:=L7 (ps:=[]++(es.map (λp:Int×V=>p.1)).zip (as.map V.ref)) e3 (by rw[e4];show u0) (by rw[e4];show z1) z2;rw[<-this];show i1
  ·rw[dT,dT,z1.length_eq,List.length_zip,dT];show⟨"A.200000,B.3,C~B,A.C",h3,hlen,Nat.min_le_left _ _⟩
  ·rw[z4,List.map_map];rfl
 ·show aL ⟨_,rfl,y⟩
def Wf{E:Value->Shared->Prop}{s0:Shared}{d uZ:Nat}(hh:A.handled=none)(cx:Cx w bz)(x:At J w bz nil Y0 s0 Y s)(e:Y d=some (.aP [] uZ))(q:new (.lst []) Q Y):wpAny (model J w) A (call (.builtin "sorted") [.ref d]) (GE J w bz Y0 s0 Q) E s:=by
 obtain⟨kvs,hD,hk⟩:=oI (x.2.1.rep _ _ e);cases hk;obtain⟨ep,r6⟩:=hD.dictAt;exact call_function_entry kind_sorted plain_sorted entry_sorted (args_sorted1 _) ?_;unfold Builtin.«sorted»;exact wb (m:=checkCount "sorted" 1 1 _) (aL ?_);exact wb (kdu_collect (A:=A.in1) (kdl_dict (knd:=intKind J w) (kvs:=[]) (ep:=ep) (x.2.1.noSys cx e rfl)) hh r6 (Nat.zero_le _) λh' tk acc k hi=>?_);have x':At J w bz nil Y0 s0 Y { s with heap:=h',toks:=tk}:=x.grow k
 have ea:acc.toList=([]:List Nat).map Value.ref:=by
  have:=hi.1;simp at this;simp[this]
 rw[ea];exact wb (wpAny_newList ?_ (Nat.zero_le _));exact wb (fI (bB (L8 (s:={ s with heap:=h',toks:=tk}) (as:=[]) (ks:=[]) (Q:=λv s'=>GE J w bz Y0 s0 Q v s') .nil List.nodup_nil (Nat.zero_le _) λzs h2 e2 z1 z2 z3 z4=>?_) (λ_ s' y=>?_) λ_ _ e=>e))
 ·have ez:zs=[]:=List.Perm.eq_nil z1;subst ez;show GE.listAt (tk:=tk) x' (vs:=[]) .nil q (Nat.zero_le _) (i5 h') z3 (n:=e2) z4
 ·show aL ⟨_,rfl,y⟩
def Wg{a:E}(ha:SE a):SE (.items a):=by
 intros;intro n c ex ak Q X hw;obtain⟨g,gp,v,ap,ps,pos,rfl,h1,h2,h3⟩:=V7 ak;rw[nB];exact wb (uS (v:=.builtin "sorted") c.cx c.st c.stays h1 (by kernel_rfl) (by decide +kernel) (by decide +kernel) ?_);exact callWith_of (P:=λ_=>True) rfl (uY _) ?_;have main:wpAny (model J w) A (spliced (backTo pos (starEach [.Call (.Attribute v "items" ap) [] [] ps] f.env))) (λvs s1=>True/\wpAny (model J w) A (call (.builtin "sorted") ([]++vs)) (GE J w bz Y0 s0 Q) (BE J w bz F f.fl Y0 s0 X) s1) (BE J w bz F f.fl Y0 s0 X) s:=?main
 ·show evalArgs_plain main
 exact spliced_more (rest:=[]) ?_ rfl;exact method_call (l:=[]) (es:=[]) ha c h2 rfl h3 (by decide) hw λo y Y' s' ho hq c' pl=>?_;exact aM hq ho λd hq=>?_;obtain⟨es,uZ,e,q1,q2,q3,q4⟩:=SM hq;obtain⟨kvs,hD,hk⟩:=oI (c'.at_.2.1.rep _ _ e);exact getMethod_builtin hD.typeIs PySem.F.plainAttrs_dict PySem.F.slot_dict_items PySem.F.type_dict_items hD.mapOf.noDict ?_;exact callArgs (l:=[]) (KP:=λ_=>True) (X:=X) KN c' (es:=[]) rfl (Q:=λxs eI=>xs=[]/\eI=Y') ⟨rfl,rfl⟩ (uY _) λvs xs eI fk hv hq a8 _=>⟨trivial,?_⟩;obtain⟨rfl,rfl⟩:=hq;cases hv;obtain⟨lM,nC,Bk⟩:=oI (a8.at_.2.1.rep _ _ e);exact call_meetsIn PySem.F.slot_dict_items nC.typeIs PySem.F.entry_dict_items (PySem.F.args_dict_items_1 _) (meets_dict_items (intKind J w) d (a8.at_.2.1.noSys a8.cx e rfl)) ⟨⟨_,nC⟩,?_⟩;have a':At J w bz nil Y0 s0 eI { fk with heap:=fk.heap.push { cls:=Value.type "dict_items",data:=Data.fields #[Value.ref d]}}:=a8.at_.grow (tk:=fk.toks) λb o e=>cf _ e
 exact spliced_nil ⟨trivial,?_⟩;show Wc a8.rm.handled a' e ⟨_,ik _ rfl,rfl,rfl⟩ q1 q2 q3 q4
def Wh:typeLookup (.type "list") "keys"=pure none:=by rw[typeLookup_type,builtinLookup_eq_fast];kernel_rfl
def gf{E:Value->Shared->Prop}{a:Addr}{xs:Array Value}{k:Nat}{Q:Option Value->Shared->Prop}
  (hx:s.heap.get? a=some { cls:=.type "list",data:=.seq xs k}) (hA:A.handled=none) (h:∀h' tk,Grows s.heap h'->Q none { s with heap:=h',toks:=tk}) :
  wpAny (model J w) A (getAttr? (.ref a) "keys") Q E s:=by
 obtain⟨hp,g,d,tk,os⟩:=s;have hT:∀tk',(⟨hp,g,d,tk',os⟩:Shared).TypeIs (.ref a) "list":=λ_=>⟨_,hx,rfl⟩;have f1:=sub_AttributeError;have f3:=PySem.F.slot_list_getattribute.lookup;have f4:=PySem.F.slot_list_getattribute.bind (.ref a);have f5:=am_list_getattr_none;have xf:(["__module__","__name__","__qualname__","__doc__","__annotations__"]:List Str).contains "keys"=false:=by decide +kernel
 have xg:=Wh;have dp:(Str.ofString "keys").length+100<=sizeLine:=by size_fits
 unfold getAttr? getAttrBy? getAttrBy
 repeat (any_goals (first | assumption | show hT _ | ((with_reducible show wpAny _ _ (call (Value.builtin "list.__getattribute__") _ _) _ _ _);exact call_meets PySem.F.slot_list_getattribute (hT _) am_entry_list_getattribute (PySem.F.args_list_getattribute_2 _ _) (meets_getattribute_miss_list a xs k #[] "keys" _ xg xf dp) ⟨hx,hA,λh' tk' e fj=>?_⟩) | wp_step))
 obtain⟨t',u',he⟩:=fj.there;show wpAny _ _ (getattributeRaised _ _ _ _ _ _ _) _ _ _;unfold getattributeRaised
 repeat (any_goals (first | assumption | wp_step))
 show h _ _ fj.keeps
theorem Wi:entryFor table "dict.update.loop"=some Builtin.«dict.update.loop»:=entryFor_of_fast (by kernel_rfl)
def Ek:plainId "dict.update.loop"=true:=by decide +kernel
class inductive PV(h:Heap):List Value->List (Int×V)->Prop
 |nil:PV h [] []
 |cons {a:Nat}{o:Obj}{i j:Int}{t u:Tok}{n:Nat}{vs:List Value}{ds:List (Int×V)}:h.get? a=some o->o.cls=.type "tuple"->o.data=.seq #[.int i t,.int j u] n->PV h vs ds->PV h (.ref a::vs) ((i,.int j)::ds)
def PV.len(x:PV h vs ds):vs.length=ds.length:=by
 induction x with
 |nil=>rfl
 |cons _ _ _ _ ih=>simp[ih]
def PV.keep(x:PV h vs ds)(k:∀b o,h.get? b=some o->o.cls=.type "tuple"->h'.get? b=some o):PV h' vs ds:=by
 induction x with
 |nil=>show .nil
 |cons a b c _ ih=>show .cons (k _ _ a b) b c ih
def Wj(kvs:List (Int×Value))(k:Int)(v:Value):(stored kvs k v).length<=kvs.length+1:=by
 unfold stored;split
 ·rw[dT];show⟨"A.A+1"⟩
 ·rw[iK];simp
theorem L9{R:Result->Shared->Prop}{d it l:Nat}(hh:A.handled=none)(r7:d≠it):∀(ds:List (Int×V)) (vs:List Value) (i:Nat) (q:Int) (s:Shared) (kvs:List (Int×Value)) (es:List (Int×V)),
  us.drop i=vs->PV s.heap vs ds->s.heap.IsListIter it l i->s.heap.IsList l us.toArray->s.heap.DictOf (intKind J w) d kvs->Kv kvs es->kvs.length+ds.length<=1000 ->
  (∀h' tk lM,h'.DictOf (intKind J w) d lM->Kv lM (ds.foldl (λd p=>dup d p.1 p.2) es)->(∀b o,b≠d->b≠it->s.heap.get? b=some o->h'.get? b=some o)->R (.ok (.ret .none)) { s with heap:=h',toks:=tk}) ->
  codeAny (model J w) A (.builtin "dict.update.loop" ⟨[.ref d,.ref it,rawInt q,.none],[]⟩) R s
 |ds,vs,i,q,s,kvs,es,hd,x,hit,hl,hm,hk,hb,h=>by
  exact codeAny_builtin Wi ?_;rw[Around.under_plainId Ek _];show wpAny _ A.in1 (pyNext (.ref it) >>= _) _ _ s;obtain⟨oi,El,Wk,xh⟩:=id hit;obtain⟨od,es0,ep0,nD,Wl,jb,_⟩:=id hm;obtain⟨ol,Em,eJ,nl,xi⟩:=id hl;have Wm:l≠it:=λq=>by clear h;subst q;nomatch Em,El;nomatch xi,xh
  have Wq:l≠d:=λq=>by clear h hm;subst q;nomatch Em,nD;nomatch xi,jb
  cases x with
  |nil=>
   have hx:us.toArray[i]?=none:=by
    rw[List.getElem?_toArray];have:us.length<=i:=List.drop_eq_nil_iff.mp hd;show iV this
   exact wb (wpAny_pyNext_list_end hh hit hl hx λh' hs=>?_);show wpAny _ A.in1 (Builtin.Dict.addKeywords d [] >>= _) _ _ _;exact wb (aL ?_);exact aL ?_;exact h h' s.toks kvs ?_ hk λb o _ u5 e=>hs b o u5 e;show DT hm λo e=>hs d o r7 e
  |cons e1 e2 e3 xt=>
   rename_i a o k j t u n vs ds;have hx:us.toArray[i]?=some (.ref a):=by
    rw[List.getElem?_toArray];have:=congrArg (λl:List Value=>l[0]?) hd
    simpa using this
   have Wr:a≠it:=λq=>by clear h;subst q;nomatch e1,El;nomatch e3,xh
   exact wb (wpAny_pyNext_list_item hit hl hx λh' xj hs=>?_);exact wb (fI ?_);have Ma:h'.get? a=some o:=(hs.2 a Wr).trans e1;exact wb (wpAny_tryCatch ?_);unfold Builtin.Dict.pairItems;exact wb (wpAny_typeOf (T:="tuple") ⟨o,Ma,e2⟩ ?_);rw[if_pos (by decide)];exact wb (wpAny_seqItems Ma e3 (aL ?_));show wpAny _ A.in1 (holding [.int k t,.int j u] (dictSet d (.int k t) (.int j u))) _ _ _;exact fI (wpAny_dictSet_pairs (knd:=intKind J w) (k:=k) (kvs:=kvs) (by simp[intKind,Value.isInt]) (DT hm λo e=>(hs.2 d r7).trans e) (λh2 Bl oQ=>?_) (by rw[sizeLine_eq];show⟨"A.16777216,A+(B+1).1000",hb⟩));exact aL ⟨plainId_quiet Ek _,?_⟩;have nd:(kvs.map (·.1)).Nodup:=let ⟨_,_,_,_,_,_,_,_,n⟩:=hm;n;have kp:∀b o,b≠d->b≠it->s.heap.get? b=some o->h2.get? b=some o:=λb o Bm u5 e=>(oQ.2 b Bm).trans ((hs.2 b u5).trans e);have tup:∀b o,s.heap.get? b=some o->o.cls=.type "tuple"->b≠d/\b≠it:=λb o e hc=>by
    exact⟨λq=>?_,λq=>?_⟩
    ·clear h hm Bl oQ kp;subst q;nomatch nD,e;rewrite [Wl.1] at hc;simp at hc
    ·clear h xj kp;subst q;nomatch El,e;rewrite [Wk] at hc;simp at hc
   exact L9 hh r7 ds vs (i+1) (q+1) _ (stored kvs k (.int j u)) (dup es k (.int j)) ?_ (xt.keep λb o e hc=>kp b o (tup b o e hc).1 (tup b o e hc).2 e) ?_ ⟨ol,kp l ol Wq Wm Em,eJ,nl,xi⟩ Bl (hk.put nd (.int _ _)) ?_ λh3 tk lM a1 a2 a3=>?_
   ·rw[<-List.drop_drop,hd];rfl
   ·obtain⟨o2,p1,p2,p3⟩:=xj;show⟨o2,(oQ.2 it (aaa r7)).trans p1,p2,p3⟩
   ·have:=Wj kvs k (.int j u);simp at hb;show⟨"A+B.1000,C+(B+1).1000,A.C+1",hb,this⟩
   ·show h h3 tk lM a1 a2 λb o Bm u5 e=>a3 b o Bm u5 (kp b o Bm u5 e)
def Ws{E:Value->Shared->Prop}{l:Nat}{Q:Value->Shared->Prop}(hh:A.handled=none)(hl:s.heap.get? l=some (cR us n))(x:PV s.heap us ds)(hb:ds.length<=1000)
  (h:∀h' tk kvs,Grows s.heap h'->h'.DictOf (intKind J w) s.heap.objs.size kvs->Kv kvs (AG ds)->Q (.ref s.heap.objs.size) { s with heap:=h',toks:=tk}) :
  wpAny (model J w) A (call (.type "dict") [.ref l]) Q E s:=by
 exact callType_codes (Q₁:=λobj s1=>obj=.ref s.heap.objs.size/\s1={ s with heap:=s.heap.push { cls:=.type "dict",data:=.dict #[]}}) PySem.F.kt_called_dict (PySem.F.kt_typeCall_dict_1 _) PySem.F.entry_dict_init (kt_code_dict_new _ ⟨rfl,rfl⟩) ?_
 rintro obj s1 ⟨rfl,rfl⟩;have jV:(s.heap.push { cls:=.type "dict",data:=.dict #[]}).DictOf (intKind J w) s.heap.objs.size []:=Heap.DictOf.new s.heap
 have jc:(s.heap.push { cls:=.type "dict",data:=.dict #[]}).get? l=some (cR us n):=cf _ hl
 exact⟨jV.typeIs,PySem.F.args_dict_init_2 _ _,?_⟩;unfold Builtin.«dict.__init__»;exact wb ?_;unfold Builtin.Dict.selfAndRest;exact wb (wpAny_notOrdered_dict jV.typeIs ?_);show wpAny _ _ (pure (s.heap.objs.size,[Value.ref l])) _ _ _;exact aL ?_;show wpAny _ _ (Builtin.Dict.updateFrom "dict.__init__" s.heap.objs.size (.ref l) [] .none) _ _ _;unfold Builtin.Dict.updateFrom;exact wb (wpAny_typeOf (T:="list") ⟨_,jc,rfl⟩ ?_);rw[if_pos (by decide)];exact wb (gf jc hh λh1 tk1 k1=>?_);have Bn:h1.get? l=some (cR us n):=k1 _ _ jc;rw[if_pos (by rfl)];exact wb (wpAny_rule ?_);exact wb (wpAny_pyIter_list (IsL.isList Bn) ?_);exact aL ⟨plainId_quiet Ek _,?_⟩;have g:∀b o,s.heap.get? b=some o->(h1.push { cls:=.type "list_iterator",data:=.fields #[.ref l,.int 0 0]}).get? b=some o:=λb o e=>cf _ (k1 _ _ (cf _ e))
 have gh:s.heap.objs.size<h1.objs.size:=by
  obtain⟨o,_,_,e,_⟩:=jV;show dK (k1 _ _ e)
 exact L9 (A:=A.in1) (us:=us) hh (fU gh) ds us 0 0 _ [] [] rfl (x.keep λb o e _=>g b o e) ⟨_,ik _ rfl,rfl,rfl⟩ (IsL.isList (IsL.push Bn _)) (DT jV λo e=>cf _ (k1 _ _ e)) .nil (by simpa using hb) λh2 nE kvs a1 a2 a3=>?_;show⟨rfl,h h2 nE kvs (λb o e=>a3 b o (fU (dK e)) (fU (Nat.lt_trans (dK e) gh)) (g b o e)) a1 a2⟩
def Wt(R:∀a o,Y a=some o->OR J w h a o){d:List (Int×V)}(r:aF us xs)(e:DO Y xs d):PV h us d:=by
 induction e generalizing us with
 |nil=>cases r;show .nil
 |cons e1 _ ih=>
  obtain _ | ⟨hv,r⟩:=r;rw[hv.oG];obtain⟨ws,⟨o,ho,hc,n,Wu⟩,q⟩:=lI (R _ _ e1);obtain⟨t,u,rfl⟩:=q.two;show .cons ho hc Wu (ih r)
def Wv{E:Value->Shared->Prop}{s0:Shared}(hh:A.handled=none)(cx:Cx w bz)(x:At J w bz nil Y0 s0 Y s)(r:aF vs xs)(h:bi .dict xs Q Y) :
  wpAny (model J w) A (call (.type "dict") vs) (GE J w bz Y0 s0 Q) E s:=by
 exact cU h r λ_ _ hv h=>aM h hv λa h=>?_;rcases AV h with⟨es,uZ,e,h'⟩ | ⟨ys,e,d,h1,h2,h3⟩
 ·obtain⟨kvs,hD,hk⟩:=oI (x.2.1.rep _ _ e);exact kt_call_dict (x.2.1.noSys cx e rfl) hD (by rw[hk.len,sizeLine_eq];show⟨"A.16777216,A>1000",h'.1⟩) λh₁ nC k=>?_;obtain⟨dq,nC⟩:=nC.dictAt;show⟨_,_,.ref _,h'.2 dq _ x.2.1.uQ,x.add (tk:=s.toks) (i5 _) rfl (λb o e=>(k.2 b (fU (dK e))).trans (cf _ e)) (.aP nC hk)⟩
 ·obtain⟨us,n,g,q⟩:=d6 (x.2.1.rep _ _ e);exact Ws hh g (Wt x.2.1.rep q h1) ⟨"A.1000,A>1000",h2⟩ λh₁ tk kvs k nC hk=>?_;obtain⟨dq,nC⟩:=nC.dictAt;show⟨_,_,.ref _,h3 dq _ x.2.1.uQ,x.add (tk:=tk) (i5 _) rfl k (.aP nC hk)⟩
def Ww{E:Value->Shared->Prop}{s0:Shared}(hh:A.handled=none)(cx:Cx w bz)(x:At J w bz nil Y0 s0 Y s)(r:aF vs xs)(h:bi .sorted xs Q Y) :
  wpAny (model J w) A (call (.builtin "sorted") vs) (GE J w bz Y0 s0 Q) E s:=by
 exact cU h r λ_ _ hv h=>aM h hv λa h=>?_;rcases AV h with⟨es,uZ,e,h'⟩ | ⟨ys,e,h'⟩
 ·obtain⟨rfl,h'⟩:=SW h';show Wf hh cx x e h'
 ·rcases h' with⟨l,rfl,h1,h2⟩ | ⟨ps,h1,h2,h3,h4⟩
  ·show VJ x e h1 h2
  ·show V4 x e h1 h2 h3 h4
def Mb:Bi->Value
 | .len=>.builtin "len"
 | .lst=>.type "list"
 | .dict=>.type "dict"
 | .sorted=>.builtin "sorted"
 | .abs=>.builtin "abs"
 | .min=>.builtin "min"
 | .max=>.builtin "max"
def Wx(b:Bi):bootBuiltins (Str.ofString (wz b))=some (Mb b):=by cases b<;>kernel_rfl
def Md(b:Bi):(Str.ofString (wz b) == ("__name__":Str))=false/\(Str.ofString (wz b) == ("__debug__":Str))=false:=by cases b<;>decide +kernel
def Wy(b:Bi):∀h:Heap,True->∃k,(k=Keeper.frame\/k=Keeper.machine\/k=Keeper.boundFrame)/\Looks M h (keeperOf (Mb b)) k:=by cases b<;>first | show uY _ | show LV _
theorem Wz{b:Bi}{ex:Expr}(h:ay sc (.bi b l) ex=true):∃g gp es pos,ex=.Call (.Name g gp) es [] pos/\jt sc g (wz b)=true/\bO sc l es=true:=
 cG h λ_ es _ q h=>bx h λg p h=>dN h λa c d=>aC c ⟨g,p,es,q,rfl,a,d⟩
def WB{b:Bi}(hl:iM l):SE (.bi b l):=by
 intros;intro n c ex ak Q X hw;obtain⟨g,gp,es,pos,rfl,h1,h2⟩:=Wz ak;rw[nB];exact wb (uS c.cx c.st c.stays h1 (Wx b) (Md b).1 (Md b).2 ?_);exact callArgs (KP:=λ_=>True) hl c h2 hw (Wy b) λvs xs Y' s' hv hq c' _=>⟨trivial,?_⟩;clear h1 ak hw;cases b with
 |len=>show Vx c'.at_ hv hq
 |lst=>show Vy c'.at_ hv hq
 |dict=>show Wv c'.rm.handled c'.cx c'.at_ hv hq
 |sorted=>show Ww c'.rm.handled c'.cx c'.at_ hv hq
 |abs=>show Vz c'.at_ hv hq
 |min=>show VA c'.rm.handled c'.at_ hv hq
 |max=>show VB c'.rm.handled c'.at_ hv hq
theorem WC{a:E}{ex:Expr}(h:ay sc (.ru a) ex=true):∃g gp y q p pos,ex=.Call (.Name g gp) [y,.Name q p] [] pos/\jt sc g "isinstance"=true/\jt sc q "bool"=true/\ns 22 y=true/\ay sc a y=true:=
 cG h λ_ _ _ pos h=>bx h λg gp h=>eZ h λy _ h=>bx h λq p h=>rN h λa b c d e=>aC b ⟨g,gp,y,q,p,pos,rfl,a,c,d,e⟩
def WD{a:E}(ha:SE a):SE (.ru a):=by
 intros;intro n c ex ak Q X hw;obtain⟨g,gp,y,q,p,pos,rfl,h1,h2,h3,h4⟩:=WC ak;rw[nB];exact wb (uS (v:=.builtin "isinstance") c.cx c.st c.stays h1 (by kernel_rfl) (by decide +kernel) (by decide +kernel) ?_);have main:wpAny (model J w) A (spliced (backTo pos (starEach ([y]++[.Name q p]) f.env))) (λvs s1=>True/\wpAny (model J w) A (call (.builtin "isinstance") ([]++vs)) (GE J w bz Y0 s0 Q) (BE J w bz F f.fl Y0 s0 X) s1) (BE J w bz F f.fl Y0 s0 X) s:=by
  exact LR (l:=[a]) (Q:=λvs s=>dh vs λv=>bN v λ_=>Q (.bool false) s) (λenv=>rfl) (λe he=>by rw[List.mem_singleton.mp he];show ha) c (by show(ns 22 y && ay sc a y && true)=true;rw[h3,h4];rfl) hw λvs xs Y' s' hv hq c'=>?_;exact uS (v:=.type "bool") c'.cx c'.st c'.stays h2 (by kernel_rfl) (by decide +kernel) (by decide +kernel) ⟨trivial,?_⟩;show VD c'.at_ hv hq
 have e:starEach ([y]++[.Name q p]) f.env=(false,eval y f.env)::starEach [.Name q p] f.env:=pY h3
 rewrite [e] at main
 exact callWith_of (P:=λ_=>True) (args:=backTo pos (starEach ([y]++[.Name q p]) f.env)) (keywords:=[]) (by rw[e];rfl) (uY _) ?_;rw[e];show evalArgs_plain main
@[elab_as_elim] theorem En{p}{P:CmpOp->Prop}(h:oA p .eq=true)(k:P .Eq):P p:=kG h ▸ k
theorem WG{a:E}{ex:Expr}(h:ay sc (.isTrue a) ex=true):∃g gp v cp k p pos,ex=.Compare (.Call (.Name g gp) [v] [] cp) [.Eq] [.Constant (.str "True") k p] pos/\jt sc g "repr"=true/\ay sc a v=true/\ns 22 v=true:=
 rH h λ_ _ _ pos h=>bp h λ_ h=>bp h λ_ h=>cG h λ_ _ _ cp h=>bx h λg gp h=>bp h λv h=>fX h λ_ k p h=>rL h λ_ h=>rO h λa b c d e f=>fZ c (aC d (En e ⟨g,gp,v,cp,k,p,pos,rfl,a,b,f⟩))
def WH:((List.range 125).all λk=>!(reprText (nm k) == ("True":Str)) && Nat.ble (reprText (nm k)).length 1000)=true:=by decide +kernel
def WK{a:E}(ha:SE a):SE (.isTrue a):=by
 intros;intro n c ex ak Q X hw;obtain⟨g,gp,v,cp,k,p,pos,rfl,h1,h2,h3⟩:=WG ak;have aU:wE W a m (λv s=>match v with
  | .bool b=>Q (.bool b) s
  | .str k=>k<125/\Q (.bool false) s
  |_=>False) X Y:=hw
 exact wpAny_Compare1 ?_ rfl;rw[nB];exact wb (uS (v:=.builtin "repr") c.cx c.st c.stays h1 (by kernel_rfl) (by decide +kernel) (by decide +kernel) ?_);have hz:starEach [v] f.env=[(false,eval v f.env)]:=by
  show pY h3
 exact callWith_of (P:=λ_=>True) (args:=backTo cp (starEach [v] f.env)) (keywords:=[]) (by rw[hz];rfl) (uY _) ?_;have main:wpAny (model J w) A (spliced (backTo cp (starEach [v] f.env))) (λvs s1=>True/\wpAny (model J w) A (call (.builtin "repr") ([]++vs)) (λa s1=>wpAny (model J w) A (eval (.Constant (.str "True") k p) f.env) (λb s2=>wpAny (model J w) A (compareOp .Eq a b) (GE J w bz Y0 s0 Q) (BE J w bz F f.fl Y0 s0 X) s2) (BE J w bz F f.fl Y0 s0 X) s1) (BE J w bz F f.fl Y0 s0 X) s1) (BE J w bz F f.fl Y0 s0 X) s:=by
  exact spliced_more (rest:=[]) (ha.then c h2 aU λv x Y' s' hv hq c'=>?_) hz;exact spliced_nil ⟨trivial,?_⟩;cases hv<;>first | show hq.elim | skip
  ·rename_i b;exact PySem.P.repr_of_bool (wpAny_Constant_str (PyProof.Rows.eq_str ⟨.bool b,Y',?_,hq,c'.at_.toks⟩));have e:((if b then ("True":Str) else "False") == ("True":Str))=b:=by clear hq;cases b<;>decide +kernel
   rw[e];show .bool b
  ·rename_i q t;have z:=bR.mp WH q (List.mem_range.mpr hq.1)
   rewrite [ba] at z
   exact PySem.P.repr_of_str (wpAny_Constant_str (PyProof.Rows.eq_str ⟨.bool false,Y',?_,hq.2,c'.at_.toks⟩)) ?_
   ·have e:(reprText (nm q) == ("True":Str))=false:=by simpa using z.1
    rw[e];show .bool false
   ·have:=Nat.le_of_ble_eq_true z.2;rw[sizeLine_eq];show⟨"A.16777216,A.1000",this⟩
 rw[hz] at main ⊢;show evalArgs_plain main
def At.Bo{s0:Shared}(x:At J w bz own Y0 s0 Y s)(hL:s.heap.get? L=some oL)(nm:¬ aD Y s.heap L)(hs:s0.heap.get? L=none)(nb:bz.get? L=none)(nr:Y L=none)(nR:¬ pZ oL)
  (k:Heap.ExtBut L s.heap h'):At J w bz own Y0 s0 Y { s with heap:=h',toks:=tk}/\¬ aD Y h' L:=by
 obtain⟨⟨h,t,e⟩,I,S⟩:=x;have ne:∀b o,Y b=some o->b≠L:=λb o e q=>by subst q;nomatch nr,e
 have da:∀b d,bj Y h' b d↔bj Y s.heap b d:=by
  intro b d;constructor
  ·rintro⟨c,fs,ox,e,hx,hd⟩;obtain⟨ob,e'⟩:=(I.rep b _ e).here;have:=k b ob (ne _ _ e) e'
   nomatch hx,this
   show⟨c,fs,ox,e,e',hd⟩
  ·rintro⟨c,fs,ox,e,hx,hd⟩;show⟨c,fs,ox,e,k b ox (ne _ _ e) hx,hd⟩
 have mu:∀b,aD Y h' b↔aD Y s.heap b:=λb=>by unfold aD;simp only[da]
 exact⟨⟨⟨h',tk,by rw[e]⟩,⟨λb ob e=>?_,λb q e=>?_,λb ob e m=>I.old b ob e ((mu b).mp m),λb d y=>I.sep b d ((da _ _).mp y),λb c d y z=>I.inj b c d ((da _ _).mp y) ((da _ _).mp z),λt ht=>tab_keep (I.tab t ht) ?_ λb ob e r=>k b ob (λq=>by subst q;nomatch hL,e;show nR r) e⟩,⟨λb o e=>let ⟨o',e'⟩:=S.kp b o e;⟨o',k b o' (λq=>by subst q;nomatch hs,e) e'⟩,λb ob e n=>?_,S.nw⟩⟩,λm=>nm ((mu L).mp m)⟩
 ·show k b ob (λq=>by subst q;nomatch nb,e) (I.stays b ob e)
 ·exact(I.rep b q e).keeps (λob z=>k b ob (ne _ _ e) z) λob d od z zd zo hq=>?_;obtain⟨c,fs,rfl⟩:=hq;show k d od (λq=>nm (by clear hL hs nb ne nr;subst q;show .inr (.inl ⟨b,c,fs,ob,e,z,zd⟩))) zo
 ·obtain⟨ps,e1,_⟩:=I.tab t ht;rw[e1];show k _ _ (λq=>nm (by rw[<-q];show .inr (.inr ⟨t,ht,rfl⟩))) e1
 ·obtain⟨o1,e₁,n1,u⟩:=S.st b ob e n;show⟨o1,k b o1 (λq=>by subst q;nomatch hs,e) e₁,λm=>n1 ((mu b).mp m),u⟩
def WL:List String:=["enumerate","zip","dict_itemiterator","dict_reverseitemiterator","odict_iterator","itertools.zip_longest","itertools.pairwise"]
structure qi(J:Program)(w:World)(bz:Heap)(I:Nat)(xs:List V)(G:So->Prop)(St:Nat->Obj->Prop):Prop where
 small:xs.length<=300000
 quiet:∀i o,St i o->(∃n,o.cls=.type n/\WL.contains n=false)/\¬ pZ o/\∃vs,o.data=.fields vs
 self:∀{A:Around}{E:Value->Shared->Prop}{s:Shared}{i:Nat}{o:Obj}{Q:Value->Shared->Prop},s.heap.get? I=some o->St i o->Q (.ref I) s->wpAny (model J w) A (pyIter (.ref I)) Q E s
 next:∀{A:Around}{E:Value->Shared->Prop}{own:Nat->Prop}{Y0 Y:So}{s0 s:Shared}{i:Nat}{o:Obj}{x:V},A.handled=none->At J w bz own Y0 s0 Y s->G Y->s.heap.get? I=some o->St i o->xs[i]?=some x->∀{Q:Option Value->Shared->Prop},
  (∀v o' h' tk,VR v x->Heap.ExtBut I s.heap h'->h'.get? I=some o'->St (i+1) o'->Q (some v) { s with heap:=h',toks:=tk})->wpAny (model J w) A (pyNext (.ref I)) Q E s
 done:∀{A:Around}{E:Value->Shared->Prop}{own:Nat->Prop}{Y0 Y:So}{s0 s:Shared}{i:Nat}{o:Obj},A.handled=none->At J w bz own Y0 s0 Y s->G Y->s.heap.get? I=some o->St i o->xs[i]?=none->∀{Q:Option Value->Shared->Prop},
  (∀h',Heap.ExtBut I s.heap h'->Q none { s with heap:=h'})->wpAny (model J w) A (pyNext (.ref I)) Q E s
theorem WM{I a:Nat}(r9:xs.length<=200000):qi J w bz I xs (λY=>Y a=some (.lst xs)) (λi o=>o.cls=.type "list_iterator"/\o.data=.fields #[.ref a,.int i 0]) where
 small:=⟨"A.300000,A.200000",r9⟩
 quiet:=λi o h=>⟨⟨_,h.1,by decide⟩,λzz=>by obtain⟨vs,q,t,e1,e2⟩:=zz;nomatch h.2,e1;simp at e2,_,h.2⟩
 self:=λho st q=>wpAny_pyIter_listiter ⟨_,ho,st.1,st.2⟩ q
 next:=by
  intro A E own Y0 Y s0 s i o x hh at_ g ho st hx Q k;obtain⟨us,n,e,q⟩:=d6 (at_.2.1.rep _ _ g);obtain⟨v,h1,h2⟩:=q.get hx;exact wpAny_pyNext_list_item ⟨o,ho,st.1,st.2⟩ (IsL.isList e) (x:=v) (by simpa using h1) λh' hit hs=>?_;obtain⟨o',p1,p2,p3⟩:=hit;show k v o' h' s.toks h2 hs.extBut p1 ⟨p2,p3⟩
 done:=by
  intro A E own Y0 Y s0 s i o hh at_ g ho st hx Q k;obtain⟨us,n,e,q⟩:=d6 (at_.2.1.rep _ _ g);exact wpAny_pyNext_list_end hh ⟨o,ho,st.1,st.2⟩ (IsL.isList e) ?_ λh' hs=>k h' hs;have:=q.len;simp at hx ⊢;show⟨"A.B,A~C,C.B",this,hx⟩
def WN(h:Kv kvs es):∀{i:Nat}{k:Int},(es.map λp=>p.1)[i]?=some k->∃v,kvs[i]?=some (k,v):=by
 induction h with
 |nil=>intro i k e;simp at e
 |cons hv t ih=>
  intro i k e;cases i with
  |zero=>simp at e;subst e;show⟨_,rfl⟩
  |succ i=>show ih (by simpa using e)
def WO{I d:Nat}(hn:n=es.length)(r9:es.length<1000)(cx:Cx w bz):qi J w bz I (es.map λp=>.int p.1) (λY=>Y d=some (.aP es ep)) (λi o=>o.cls=.type "dict_keyiterator"/\o.data=.fields #[.ref d,.int i 0,.int n 0,.int ep 0]) where
 small:=by rw[dT];show⟨"A.300000,A>1000",r9⟩
 quiet:=λi o h=>⟨⟨_,h.1,by decide⟩,λzz=>by obtain⟨vs,q,t,e1,e2⟩:=zz;nomatch h.2,e1;simp at e2,_,h.2⟩
 self:=λho st q=>wpAny_pyIter_keyiter ⟨_,ho,st.1,st.2⟩ q
 next:=by
  intro A E own Y0 Y s0 s i o x hh at_ g ho st hx Q k;obtain⟨kvs,e,q⟩:=A5 (at_.2.1.rep _ _ g);have hl:n=kvs.length:=hn.trans q.len.symm;subst hl
  rewrite [List.getElem?_map] at hx
  cases hp:es[i]? with
  |none=>nomatch hp,hx
  |some p=>
   nomatch hp,hx
   obtain⟨v,hv⟩:=WN q (i:=i) (k:=p.1) (by rw[List.getElem?_map,hp];rfl);exact wpAny_pyNext_dict_item ⟨o,ho,st.1,st.2⟩ e hv λkey h' hk hit hs=>?_;obtain⟨o',p1,p2,p3⟩:=hit;cases key with
   |int j t=>
    have:j=p.1:=by simpa [intKind,Value.isInt] using hk
    subst this;show k _ o' h' s.toks (.int _ _) hs.extBut p1 ⟨p2,p3⟩
   |_=>show absurd hk (by simp[intKind,Value.isInt])
 done:=by
  intro A E own Y0 Y s0 s i o hh at_ g ho st hx Q k;obtain⟨kvs,e,q⟩:=A5 (at_.2.1.rep _ _ g);have hl:n=kvs.length:=hn.trans q.len.symm;subst hl;exact wpAny_pyNext_dict_end hh ⟨o,ho,st.1,st.2⟩ e ?_ λh' hs=>k h' hs;simp at hx ⊢;show⟨"A.B,A~C,C.B",hn,hx⟩
def WQ{I:Nat}{a b:Int}(r9:(b-a).toNat<=300000):qi J w bz I (kM a b) (λ_=>True) (λi o=>o={ cls:=.type "range_iterator",data:=.fields #[rawInt (a+i),rawInt ((b-a).toNat-i),rawInt 1]}) where
 small:=by unfold kM;rw[dT,List.length_range];show r9
 quiet:=λi o h=>by
  subst h;show⟨⟨_,rfl,by decide⟩,λzz=>by obtain⟨vs,q,t,e1,e2⟩:=zz;cases e1;simp[rawInt] at e2,_,rfl⟩
 self:=λho st q=>by subst st;show wpAny_pyIter_rangeiter ho q
 next:=by
  intro A E own Y0 Y s0 s i o x hh at_ g ho st hx Q k;subst st;have hi:i<(b-a).toNat/\x=.int (a+i):=by
   unfold kM at hx
   rewrite [List.getElem?_map] at hx
   by_cases q:i<(b-a).toNat
   ·rewrite [List.getElem?_range q] at hx;clear k;cases hx;show⟨q,rfl⟩
   ·nomatch iV (by simp;show Int.toNat_le.mp (Nat.not_lt.mp q)),hx
  obtain⟨hi,rfl⟩:=hi;exact wpAny_pyNext_range_item (left:=(b-a).toNat-i) ho ⟨"0<'A-'B,B>A",hi⟩ λh' hit hs=>?_;exact k _ _ h' _ (.int _ _) hs.extBut hit ?_;have e1:a+(i:Int)+1=a+((i+1:Nat):Int):=⟨"a+'A+1=a+'(A+1)"⟩;have e2:((b-a).toNat:Int)-i-1=(b-a).toNat-((i+1:Nat):Int):=⟨"'A-'B-1='A-'(B+1)"⟩;rw[e1,e2]
 done:=by
  intro A E own Y0 Y s0 s i o hh at_ g ho st hx Q k;subst st;exact wpAny_pyNext_range_end hh ho ?_ λh' hs=>k h' hs;unfold kM at hx;simp at hx;show Int.sub_nonpos_of_le (Int.ofNat_le.mpr (Int.toNat_le.mpr hx))
def xm(e:E):Prop:=∀{J:Program}{w:World}{bz:Heap}{F:bu}{W:Wo}{A:Around}{f:Act}{sc:Scope}{m:Env}{Y0:So}{s0:Shared}{Y:So}{s:Shared}{n:Nat},Cn J w bz F W A f sc m Y0 s0 Y s n->∀{ex:Expr},ay sc e ex=true->∀{K:List V->(So->Prop)->So->Prop}{X:Nat->So->Prop},m8 W e m (wE W e m) K X Y->∀{P:Value->Shared->Prop},
 (∀I xs G St o Y' s',qi J w bz I xs G St->s'.heap.get? I=some o->St 0 o->K xs G Y'->Cn J w bz F W A f sc m Y0 s0 Y' s' n->s.heap.get? I=none->¬ aD Y' s'.heap I->Y' I=none->P (.ref I) s') ->
 wpAny (model J w) A (eval ex f.env) (λv s1=>wpAny (model J w) A (pyIter v) P (BE J w bz F f.fl Y0 s0 X) s1) (BE J w bz F f.fl Y0 s0 X) s
def Eo{F:bu}{f:Act}{s0:Shared}(c:Cn J w bz F W A f sc m Y0 s0 Y s n)(hf:o.isFreed=false):(s.heap.push o).get? s.heap.objs.size=some o/\Cn J w bz F W A f sc m Y0 s0 Y { s with heap:=s.heap.push o} n/\¬ aD Y (s.heap.push o) s.heap.objs.size/\Y s.heap.objs.size=none:=by
 have I:=c.at_.2.1;have g:Grows s.heap (s.heap.push o):=λb o' e=>cf _ e;have a:At J w bz nil Y s Y { s with heap:=s.heap.push o}:=(At.refl I).grow (tk:=s.toks) g
 show⟨ik _ hf,c.go a,λq=>uW I (λb o' e=>⟨o',g b o' e,λ_ _ _=>rfl⟩) (i5 _) q,I.uQ⟩
def Mf{e:E}(he:SE e)(hb:∀W m K X Y,m8 W e m (wE W e m) K X Y=wE W e m (m7 K) X Y):xm e:=by
 intros;intro n c ex ak K X hw P h
 rewrite [hb] at hw
 exact bB (he c.here ak hw) (λv s' zz=>?_) λ_ _ z=>z.from c.at_;obtain⟨x,Y',h1,h2,h3⟩:=zz;have c':=c.go h3;have qj:s.heap.get? s'.heap.objs.size=none:=by
  cases e:s.heap.get? s'.heap.objs.size with
  |none=>rfl
  |some o=>
   obtain⟨o',e'⟩:=h3.2.2.kp _ o e;show absurd (dK e') (Nat.lt_irrefl _)
 exact aM h2 h1 λa h2=>?_;rcases (AV h2).symm with⟨xs,e,h2⟩ | ⟨es,ep,e,h2⟩
 ·obtain⟨us,k,g,q⟩:=d6 (c'.at_.2.1.rep _ _ e);obtain⟨n1,n2,n3,n4⟩:=Eo c' (o:={ cls:=.type "list_iterator",data:=.fields #[.ref a,.int 0 0]}) rfl
  show wpAny_pyIter_list (IsL.isList g) (h _ _ _ _ _ _ _ (WM (w0 (c'.at_.2.1.rep _ _ e))) n1 ⟨rfl,rfl⟩ h2 n2 qj n3 n4)
 ·obtain⟨kvs,g,q⟩:=A5 (c'.at_.2.1.rep _ _ e);obtain⟨n1,n2,n3,n4⟩:=Eo c' (o:={ cls:=.type "dict_keyiterator",data:=.fields #[.ref a,.int 0 0,.int kvs.length 0,.int ep 0]}) rfl
  show wpAny_pyIter_dict (c'.at_.2.1.noSys c'.cx e rfl) g (h _ _ _ _ _ _ _ (WO q.len h2.1 c'.cx) n1 ⟨rfl,rfl⟩ h2.2 n2 qj n3 n4)
theorem WR{ex:Expr}(h:ay sc (.jq l) ex=true):∃g gp es pos,ex=.Call (.Name g gp) es [] pos/\jt sc g "range"=true/\bO sc l es=true:=
 cG h λ_ es _ q h=>bx h λx p h=>dN h λa b c=>aC c ⟨x,p,es,q,rfl,a,b⟩
def WT(hl:iM l):xm (.jq l):=by
 intros;intro n c ex ak K X hw P h;obtain⟨g,gp,es,pos,rfl,h1,h2⟩:=WR ak;have aU:wEs W l m (λvs s=>I6 vs λa b=>(-big<=a/\a<big/\-big<=b/\b<big)/\K (kM a b) (λ_=>True) s) X Y:=hw;rw[nB];exact wb (uS (v:=.type "range") c.cx c.st c.stays h1 (by kernel_rfl) (by decide +kernel) (by decide +kernel) ?_);exact callArgs (KP:=λ_=>True) hl c h2 aU (LV _) λvs xs Y' s' hv hq c' a=>⟨trivial,?_⟩;have fin:∀(i j:Int) (t u v:Tok) (tk:Nat),(-big<=i/\i<big/\-big<=j/\j<big)/\K (kM i j) (λ_=>True) Y'->wpAny (model J w) A (pyIter (.ref s'.heap.objs.size)) P (BE J w bz F f.fl Y0 s0 X) { s' with heap:=s'.heap.push { cls:=.type "range",data:=.fields #[.int i t,.int j u,.int 1 v]},toks:=tk}:=λi j t u v tk hh=>by
  obtain⟨⟨b1,b2,b3,b4⟩,hk⟩:=hh;have Mg:-100000<=i:=b1;have WU:i<100000:=b2;have Bd:-100000<=j:=b3;have Mh:j<100000:=b4;have c1:Cn J w bz F W A f sc m Y0 s0 Y' { s' with heap:=s'.heap.push { cls:=.type "range",data:=.fields #[.int i t,.int j u,.int 1 v]},toks:=tk} n:=c'.go ((At.refl c'.at_.2.1).grow λb o e=>cf _ e)
  exact wpAny_pyIter_range (s:={ s' with heap:=s'.heap.push { cls:=.type "range",data:=.fields #[.int i t,.int j u,.int 1 v]},toks:=tk}) (IsRange.new _ _ _ _ _ _ _) (small_one (dX (by decide) Mg) (Int.lt_trans WU (by decide)) (dX (by decide) Bd) (Int.lt_trans Mh (by decide))) ?_
  have es:Builtin.Range.rangeSize i j 1=((j-i).toNat:Int):=by
   rw[rangeSize_one];split<;>rename_i z
   ·show(bw ⟨"0:a-b,b<a",z⟩).symm
   ·rw[Int.toNat_of_nonpos ⟨"a-b:0,!b<a",z⟩];rfl
  rw[es];obtain⟨n1,n2,n3,n4⟩:=Eo c1 (o:={ cls:=.type "range_iterator",data:=.fields #[rawInt i,rawInt ((j-i).toNat:Int),rawInt 1]}) rfl
  exact h _ _ _ _ _ _ _ (WQ (a:=i) (b:=j) (Int.toNat_le.mpr ⟨"a-b:'300000,a<100000,0-100000:b",Mh,Mg⟩)) n1 (by simp) hk n2 ?_ n3 n4;cases e:s.heap.get? (s'.heap.push { cls:=.type "range",data:=.fields #[.int i t,.int j u,.int 1 v]}).objs.size with
  |none=>rfl
  |some o=>
   obtain⟨o',e'⟩:=a.2.2.kp _ o e;rw[Heap.size_push] at e';have q:=dK e';have q':s'.heap.objs.size+1<s'.heap.objs.size:=q;show absurd q' (Nat.not_lt.mpr (Nat.le_succ _))
 obtain _ | ⟨jW,hv⟩:=hv
 ·show hq.elim
 ·obtain _ | ⟨qh,hv⟩:=hv
  ·show az hq jW λi _ hq=>call_range_1 (fin _ _ _ _ _ _ hq)
  ·show p9 hq hv λhq=>az hq jW λi _ hq=>az hq qh λj _ hq=>call_range_2 (fin _ _ _ _ _ _ hq)
def nF(m:Env)(t:List Nat):Env:=m.filter λp=>!t.contains p.1
def Bp{x:Nat}:lk (nF m t) x=if t.contains x then none else lk m x:=by
 induction m with
 |nil=>unfold nF;simp[lk]
 |cons p r ih=>
  obtain⟨k,v⟩:=p;unfold nF at ih ⊢;rw[List.filter_cons];by_cases hk:t.contains k=true
  ·have e1:(!t.contains k)=false:=by rw[hk];rfl
   simp only[e1,Bool.false_eq_true,if_false];rw[ih];split
   ·rfl
   ·rename_i hx;show lk r x=(match Nat.beq k x with | true=>some v | false=>lk r x)
    cases q:Nat.beq k x with
    |true=>rw[nq q] at hk;show absurd hk hx
    |false=>rfl
  ·have e1:(!t.contains k)=true:=by simpa using hk
   simp only[e1,if_true];show(match Nat.beq k x with | true=>some v | false=>lk (List.filter _ r) x)=if t.contains x=true then none else (match Nat.beq k x with | true=>some v | false=>lk r x)
   cases q:Nat.beq k x with
   |true=>rw[nq q] at hk;rw[if_neg hk]
   |false=>show ih
def gi{x y:Nat}{v:V}:lk (up m x v) y=if x=y then some v else lk m y:=by
 induction m with
 |nil=>
  show(match Nat.beq x y with | true=>some v | false=>none)=_
  cases q:Nat.beq x y with
  |true=>rw[if_pos (nq q)]
  |false=>rw[if_neg (λe=>by subst e;simp at q)];rfl
 |cons p r ih=>
  obtain⟨k,u⟩:=p;dsimp only[up];cases q:Nat.beq k x with
  |true=>
   have:=nq q;subst this;show(match Nat.beq k y with | true=>some v | false=>lk r y)=if k=y then some v else (match Nat.beq k y with | true=>some u | false=>lk r y)
   cases q':Nat.beq k y with
   |true=>rw[if_pos (nq q')]
   |false=>rw[if_neg (λe=>by subst e;simp at q')]
  |false=>
   show(match Nat.beq k y with | true=>some u | false=>lk (up r x v) y)=if x=y then some v else (match Nat.beq k y with | true=>some u | false=>lk r y)
   cases q':Nat.beq k y with
   |true=>
    have e1:=nq q';subst e1;rw[if_neg (λe=>by subst e;simp at q)]
   |false=>show ih
theorem i6.congr{f:Act}(L:i6 bz f m Y h)(e:∀x,lk m' x=lk m x):i6 bz f m' Y h:=⟨L.ns,L.i7,L.qc,L.gb,λx v hv hx=>L.loc x v hv (by rw[<-e];show hx),L.cK⟩
set_option tactic.hygienic false
def fh(m:Env):Prop:=∀y v,lk m y=some v->∀p b c,v≠.bA p b c
theorem fh.up{x:Nat}{v:V}(h:fh m)(hv:∀p b c,v≠.bA p b c):fh (up m x v):=λy u e=>by
 rewrite [gi] at e
 split at e
 ·cases e;show hv
 ·show h y u e
def iy.Mi{p:List Nat}(x:iy bz Y h fa p b cs)(hL:h.get? L=some oL)(hd:∃es ep,oL.data=.dict es ep)(k:Heap.SameBut L h h')(mu:∀b,aD Y h' b↔aD Y h b):iy bz Y h' fa p b cs:=by
 obtain⟨ar,bo,inner,c',eH,cl,q,pm,sc,cps,e1,e2,e3,e4,e5,e6,e7,e8⟩:=x;obtain⟨es,ep,hd⟩:=hd;have n1:fa≠L:=λq=>by subst q;nomatch hL,e1;cases hd
 obtain⟨cc,oc,vs,t,b1,b2,b3,b4⟩:=e3;cases b1;have n2:c'≠L:=λq=>by subst q;nomatch hL,b2;nomatch hd,b3
 exact⟨ar,bo,inner,c',eH,cl,q,pm,sc,cps,(k.2 _ n1).trans e1,λm=>e2 ((mu _).mp m),⟨c',oc,vs,t,rfl,(k.2 _ n2).trans b2,b3,b4⟩,λm=>e4 ((mu _).mp m),e5,e6,e7,λx v hx=>?_⟩;obtain⟨c,rv,d1,⟨o,d2,rX⟩,d3,d4,d5⟩:=e8 x v hx;have n3:c≠L:=λq=>by subst q;nomatch hL,d2;nomatch hd,rX
 show⟨c,rv,d1,⟨o,(k.2 _ n3).trans d2,rX⟩,d3,λm=>d4 ((mu _).mp m),d5⟩
def Mj(hi:∀b c fs,Y b=some (.inst c fs)->b≠L)(k:Heap.SameBut L h h'):∀b,aD Y h' b↔aD Y h b:=by
 have da:∀b d,bj Y h' b d↔bj Y h b d:=by
  intro b d;constructor
  ·rintro⟨c,fs,ox,e,hx,hd⟩;show⟨c,fs,ox,e,(k.2 b (hi _ _ _ e)) ▸ hx,hd⟩
  ·rintro⟨c,fs,ox,e,hx,hd⟩;show⟨c,fs,ox,e,(k.2 b (hi _ _ _ e)).trans hx,hd⟩
 intro b;unfold aD;simp only[da]
def u6(I:Inv J w bz Y h)(hL:h.get? L=some oL)(hd:(∃es ep,oL.data=.dict es ep)\/∃v,oL.data=.cell v)(nm:¬ aD Y h L):Y L=none:=by
 cases e:Y L with
 |none=>rfl
 |some o=>
  exfalso;by_cases hm:o.mut=true
  ·show nm (.inl ⟨o,e,hm⟩)
  ·have R:=I.rep _ _ e;cases R with
   |inst _ _ _=>show hm rfl
   |lst _ _ _=>show hm rfl
   |aP _ _=>show hm rfl
   |cO e' _ _=>obtain⟨o,e',_,n,h3⟩:=e';nomatch hL,e';rcases hd with⟨_,_,hd⟩ | ⟨_,hd⟩<;>rw[hd] at h3<;>cases h3
   |tup e' _ _=>obtain⟨o,e',_,n,h3⟩:=e';nomatch hL,e';rcases hd with⟨_,_,hd⟩ | ⟨_,hd⟩<;>rw[hd] at h3<;>cases h3
def sf{F:bu}{f:Act}{s0:Shared}(c:Cn J w bz F W A f sc m Y0 s0 Y s n){x:Nat}{v:V}(r:VC bz Y s.heap rv v)(hk:sc.names.lookup (nm x)=some .local)(hs:s0.heap.get? f.env.locals=none)
  {P:Unit->Shared->Prop} (h:∀s',Cn J w bz F W A f sc (up m x v) Y0 s0 Y s' n->P () s'):wpAny (model J w) A (storeName f.env (nm x) rv) P EE s:=by
 have iz:f.env.scope.kind=.function:=by rw[c.st.se];show c.st.kind
 have hl:f.env.kindOf (nm x)=some .local:=by unfold Env.kindOf;rw[c.st.se];show hk
 obtain⟨mm,ns⟩:=c.lv.ns;exact wpAny_storeName_local hl ns (λh' r4 k=>?_) (by rw[iz];rfl);obtain⟨oL,es,ep,hL,hd,iA⟩:=id ns;have I:=c.at_.2.1;have vd:=c.lv.i7;have nr:=u6 I hL (.inl ⟨es,ep,hd⟩) vd;have hi:∀b cc fs,Y b=some (.inst cc fs)->b≠f.env.locals:=λb cc fs e q=>by subst q;nomatch nr,e
 have mu:=Mj hi k;have he:∃o',h'.get? f.env.locals=some o':=let ⟨o,_,_,e,_⟩:=r4;⟨o,e⟩;have a:=c.at_.Ks (tk:=s.toks+1) hL vd c.lv.qc hi (.inr hs) k he nr (λzz=>by obtain⟨vs,q,t,e1,_⟩:=zz;nomatch hd,e1)
 have cellK:∀cc vv,s.heap.IsCell cc vv->h'.IsCell cc vv:=λcc vv zz=>by obtain⟨o,e,jb⟩:=zz;show⟨o,(k.2 _ (λq=>by subst q;nomatch hL,e;nomatch hd,jb)).trans e,jb⟩
 exact h _ ⟨c.cx,c.wo,c.rm,c.st,⟨⟨_,r4⟩,λq=>vd ((mu _).mp q),c.lv.qc,λy cc e=>?_,λy u hv hy=>?_,λenv he=>?_⟩,a⟩
 ·obtain⟨⟨vv,hc⟩,h2,h3⟩:=c.lv.gb y cc e;show⟨⟨vv,cellK _ _ hc⟩,λq=>h2 ((mu _).mp q),h3⟩
 ·rewrite [gi] at hy
  split at hy
  ·rename_i e;subst e;cases hy;have hH:eE h' f.env (nm x) rv:=.inl ⟨hl,_,r4,if_pos rfl⟩;clear h;cases v with
   |bA p b cs=>obtain⟨fa,rfl,hc⟩:=r;show⟨fa,hH,hc.Mi hL ⟨es,ep,hd⟩ k mu⟩
   |_=>show⟨rv,hH,r⟩
  ·rename_i au;have jd:∀vv,eE s.heap f.env (nm y) vv->eE h' f.env (nm y) vv:=λvv H=>by
    rcases H with⟨h1,m2,h2,h3⟩ | ⟨h1,cc,h2,h3⟩
    ·exact .inl ⟨h1,_,r4,?_⟩;rw[if_neg (λq=>au (rT q).symm)];rw[<-h3];obtain⟨o1,es1,Uo,g1,g2,g3,g4⟩:=ns;obtain⟨o2,es2,Uq,g5,g6,g7,g8⟩:=h2
     nomatch g1,g5
     nomatch g2,g6
     rw[<-g4,<-g8]
    ·show .inr ⟨h1,cc,h2,cellK _ _ h3⟩
   have L:=c.lv.loc y u hv hy;unfold Loc at L ⊢;split at L
   ·obtain⟨fa,h1,h2⟩:=L;show⟨fa,jd _ h1,h2.Mi hL ⟨es,ep,hd⟩ k mu⟩
   ·obtain⟨vv,h1,h2⟩:=L;show⟨vv,jd _ h1,h2⟩
 ·obtain⟨Ep,L',hf,hb,hm,m2,n2⟩:=c.lv.cK env he;exact⟨Ep,L',hf,hb,λq=>hm ((mu _).mp q),?_⟩;by_cases q:L'=f.env.locals
  ·show⟨_,by rw[q];show r4⟩
  ·show⟨m2,n2.sameBut k q⟩
def Mk{F:bu}{f:Act}{s0:Shared}(c:Cn J w bz F W A f sc m Y0 s0 Y s n){x:Nat}{v:V}(r:VR rv v)(nc:fh m)(hk:sc.names.lookup (nm x)=some .cell)(hs:∀cc,f.env.cells.lookup (nm x)=some cc->s0.heap.get? cc=none)
  {P:Unit->Shared->Prop} (h:∀s',Cn J w bz F W A f sc (up m x v) Y0 s0 Y s' n->P () s'):wpAny (model J w) A (storeName f.env (nm x) rv) P EE s:=by
 have iz:f.env.scope.kind=.function:=by rw[c.st.se];show c.st.kind
 have hl:f.env.kindOf (nm x)=some .cell:=by unfold Env.kindOf;rw[c.st.se];show hk
 obtain⟨cc,hc⟩:=c.st.cin (nm x) (.inl hk);obtain⟨⟨v0,Bq⟩,vd,nb⟩:=c.lv.gb _ _ hc;exact wpAny_storeName_cell iz hl hc Bq λh' jv k=>?_;obtain⟨oL,hL,hd⟩:=id Bq;have I:=c.at_.2.1;have nr:=u6 I hL (.inr ⟨_,hd⟩) vd;have hi:∀b ci fs,Y b=some (.inst ci fs)->b≠cc:=λb ci fs e q=>by subst q;nomatch nr,e
 have mu:=Mj hi k;have he:∃o',h'.get? cc=some o':=let ⟨o,e,_⟩:=jv;⟨o,e⟩;have a:=c.at_.Ks (tk:=s.toks) hL vd nb hi (.inr (hs _ hc)) k he nr (λzz=>by obtain⟨vs,q,t,e1,_⟩:=zz;nomatch hd,e1)
 have sg:∀L mm,s.heap.Ns L mm->h'.Ns L mm:=λL mm zz=>by obtain⟨o,es,ep,e,jb,rr⟩:=zz;show⟨o,es,ep,(k.2 _ (λq=>by clear hc he hi nb nr;subst q;nomatch hL,e;nomatch hd,jb)).trans e,jb,rr⟩
 have cellK:∀c2 vv,c2≠cc->s.heap.IsCell c2 vv->h'.IsCell c2 vv:=λc2 vv q zz=>by obtain⟨o,e,jb⟩:=zz;show⟨o,(k.2 _ q).trans e,jb⟩
 obtain⟨mm,ns⟩:=c.lv.ns;exact h _ ⟨c.cx,c.wo,c.rm,c.st,⟨⟨mm,sg _ _ ns⟩,λq=>c.lv.i7 ((mu _).mp q),c.lv.qc,λy c2 e=>?_,λy u hv hy=>?_,λenv he=>?_⟩,a⟩
 ·obtain⟨⟨vv,dB⟩,h2,h3⟩:=c.lv.gb y c2 e;exact⟨?_,λq=>h2 ((mu _).mp q),h3⟩;by_cases q:c2=cc
  ·show⟨_,by rw[q];show jv⟩
  ·show⟨vv,cellK _ _ q dB⟩
 ·rewrite [gi] at hy
  split at hy
  ·rename_i e;subst e;cases hy;have hH:eE h' f.env (nm x) rv:=.inr ⟨.inl hl,cc,hc,jv⟩;clear h;cases v with
   |bA p b cs=>show absurd rfl (r.fh p b cs)
   |_=>show⟨rv,hH,r⟩
  ·rename_i au;have jd:∀vv,eE s.heap f.env (nm y) vv->eE h' f.env (nm y) vv:=λvv H=>by
    rcases H with⟨h1,m2,h2,h3⟩ | ⟨h1,c2,h2,h3⟩
    ·show .inl ⟨h1,m2,sg _ _ h2,h3⟩
    ·show .inr ⟨h1,c2,h2,cellK _ _ (λq=>by clear cellK hL he hi nb nr;subst q;show au (rT (c.st.inj _ _ _ hc h2))) h3⟩
   have L:=c.lv.loc y u hv hy;have no:=nc y u hy;clear hy;cases u with
   |bA p b cs=>show absurd rfl (no p b cs)
   |_=>obtain⟨vv,h1,h2⟩:=L;show⟨vv,jd _ h1,h2⟩
 ·obtain⟨Ep,L',hf,hb,hm,m2,n2⟩:=c.lv.cK env he;show⟨Ep,L',hf,hb,λq=>hm ((mu _).mp q),m2,sg _ _ n2⟩
set_option tactic.hygienic true
def WV(fs:List (Nat×V))(k:Nat)(v:V):(up fs k v).length<=fs.length+1:=by
 induction fs with
 |nil=>show ip _
 |cons p r ih=>
  obtain⟨j,u⟩:=p;dsimp only[up];cases Nat.beq j k with
  |true=>simp
  |false=>simp;show⟨"A.B+1,A.B+1",ih⟩
def WW{E:Value->Shared->Prop}{s0:Shared}{a k c:Nat}{x:V}{Q:Unit->Shared->Prop}(cx:Cx w bz)(at_:At J w bz own Y0 s0 Y s)(ha:Y a=some (.inst c fs))(ho:nA c k=true)(hl:fs.length<900)(hv:VR v x)
  (h:∀s',At J w bz own Y0 s0 (Tactic.put Y a (.inst c (up fs k x))) s'->At J w bz nil Y s (Tactic.put Y a (.inst c (up fs k x))) s'->Q () s'):wpAny (model J w) A (setAttr (.ref a) (nm k) v) Q E s:=by
 obtain⟨d,es,n,sl,e,ed,f⟩:=(at_.2.1.rep a _ ha).wZ;have F:=KY w.params ho;unfold attrOk at F;simp only[ba] at F;obtain⟨⟨⟨⟨⟨f1,f2⟩,f3⟩,f4⟩,f5⟩,f6⟩:=F;have X:(KF w.params).In s.heap:=cx.k.keeps at_.2.1.stays;have I:=DY e ed;exact set_plain X I (bq.mp f4) (osa_open (s:={ s with toks:=s.toks+1}) X I f5 (bq.mp f6) λb=>?_)
 obtain⟨cd,hc,di⟩:=any_some f2;have D':(s.heap.update d (Obj.putName (nm k) (PyData.keyHash w.params (nm k)) (.str (nm k) (s.toks+1)) v)).get? d=some (dictOf (putL (nm k) (PyData.keyHash w.params (nm k)) (.str (nm k) (s.toks+1)) v es) (putN (nm k) es n)):=by
  rw[Heap.get?_update_self _ ed (by rw[putName_dict];rfl),putName_dict]
 exact wb (aL (wb (wb (wpAny_loadPart e (wb (Looks.here (s:={ s with toks:=s.toks+1}) (looks_clsIn X hc) ?_))))))
 rw[di];exact aL (a:=some d) (wb (aL (wb ?_)));unfold nsSet;exact wb (wb (wpAny_askSetting (aL (wb (wpAny_mkText (wb (wpAny_loadPart ed ?_)))))));have c0:(!es.toArray.any (·.key.isStr (nm k)) && es.toArray.any (·.refKey))=false:=by
  have z:es.toArray.any (·.refKey)=false:=by rw[<-Array.any_toList];show f.noRef
  rw[z,Bool.and_false]
 dsimp only;rw[aRefKeyMayBeTheName_at,c0];exact wpAny_updatePart ed ?_;have hlen:(putL (nm k) (PyData.keyHash w.params (nm k)) (.str (nm k) (s.toks+1)) v es).length<=901:=by
  rw[(f.put hv (k:=k) (hs:=PyData.keyHash w.params (nm k)) (t:=s.toks+1)).len];have:=WV fs k x;show⟨"A.901,B>900,A.B+1",hl,this⟩
 exact wb (wpAny_lookBehind D' (by show pastItsLine_dict (by rw[sz,sizeLine_eq];show⟨"A.16777216+1,A.901",hlen⟩)) ?_);exact aL ?_;have hd:(f.put hv (k:=k) (hs:=PyData.keyHash w.params (nm k)) (t:=s.toks+1))=(f.put hv (k:=k) (hs:=PyData.keyHash w.params (nm k)) (t:=s.toks+1)):=rfl;show h _ (at_.Kq ha e (Heap.SameBut.update ..) D' (f.put hv)) ((At.refl at_.2.1).Kq ha e (Heap.SameBut.update ..) D' (f.put hv))
def WX{E:Value->Shared->Prop}{l:Nat}{k:Int}{t:Tok}{Q:Unit->Shared->Prop}(oR:s.heap.get? l=some (cR vs n))(h0:0<=k)(xn:k<2 ^ 63)(hn:k<vs.length)
  (hQ:∀n',(s.heap.update l (Obj.mapSeq (·.setIfInBounds k.toNat v))).get? l=some (cR (vs.set k.toNat v) n')->Q () { s with heap:=s.heap.update l (Obj.mapSeq (·.setIfInBounds k.toNat v))}) :
  wpAny (model J w) A (setItem (.ref l) (.int k t) v) Q E s:=by
 have hl:s.heap.IsList l vs.toArray:=IsL.isList oR;unfold setItem
 try with_reducible exact fI ?_
 first | exact wb (aL ?_) | skip
 exact wb (wpAny_sequenceKey hl.typeIs (by decide) ?_);exact wb (wpAny_callSpecial?_slot (name:=Str.ofString "__setitem__") hl.typeIs PySem.slot_list_setitem
  (wpAny_call_entry PySem.slot_list_setitem hl.typeIs PySem.entry_list_setitem ?_ (PySem.args_list_setitem _ _ _)))
 show wpAny _ _ (Builtin.List.listSubscript? (.int k t) >>= _) _ _ s;exact wb (wpAny_listSubscript_int (fitsIndex_of h0 xn) ?_);clear xn;obtain⟨j,rfl⟩:=Int.eq_ofNat_of_zero_le h0;have hj:j<vs.toArray.size:=by rw[sz];show⟨"A>B,'A<'B",hn⟩
 have fj:vs.toArray[j]?=some vs.toArray[j]:=Array.getElem?_eq_getElem hj;show wpAny _ _ ((seqItemAt l j >>= λr=>pure (r.map (j,·))) >>= _) _ _ s;exact wb (wb (wpAny_seqItemAt oR rfl (aL ?_)));rw[fj];show wpAny _ _ (setSeqItemAt l j v >>= _) _ _ s;obtain⟨n',dC⟩:∃n',(s.heap.update l (Obj.mapSeq (·.setIfInBounds j v))).get? l=some (cR (vs.set j v) n'):=by
  have h:=get?_update_seq oR (λxs=>xs.setIfInBounds j v);rw[List.setIfInBounds_toArray] at h;show⟨_,h⟩
 exact wb (wpAny_setSeqItemAt oR rfl ?_)
 first
  |show wb (aL (aL ⟨.none,rfl,aL (hQ n' dC)⟩))
  |show aL ⟨.none,rfl,aL (hQ n' dC)⟩
def WY(n:Nat){i:Int}(h0:0<=i)(h1:i<=j)(h2:j<=n):sliceBounds (some i) (some j) none n=(i,j,1):=by
 unfold sliceBounds;simp only[Option.getD_none,show(1:Int) > 0 by decide,if_true];rw[if_neg ⟨"!a<0,0:a",h0⟩,if_neg ⟨"!a<0,0:b,b:a",h0,h1⟩];rw[show max (0:Int) (min i n)=i by rw[Int.min_eq_left (dX h1 h2),Int.max_eq_right h0],show max (0:Int) (min j n)=j by rw[Int.min_eq_left h2,Int.max_eq_right (dX h0 h1)]]
def WZ(vs us:List Value){j:Nat}(h1:i<=j)(h2:j<=vs.length):(vs.toArray.extract 0 i++us.toArray++vs.toArray.extract (max (i:Int) j).toNat vs.toArray.size)=(vs.take i++us++vs.drop j).toArray:=by
 have e:(max (i:Int) j).toNat=j:=by rw[Int.max_eq_right (Int.ofNat_le.2 h1)];rfl
 rw[e];apply Array.ext';simp[List.extract_eq_drop_take,List.take_of_length_le]
def W0{E:Value->Shared->Prop}{l l2 sl n2:Nat}{i:Int}{t u:Tok}{Q:Unit->Shared->Prop}(oR:s.heap.get? l=some (cR vs n))(Ml:s.heap.get? l2=some (cR us n2))(au:l≠l2)(hs:s.heap.IsSliceOf sl (.int i t) (.int j u) .none)(h0:0<=i)(h1:i<=j)(h2:j<=vs.length)(dp:vs.length+us.length<100000)
  (hQ:∀h' n',Heap.SameBut l s.heap h'->h'.get? l=some (cR (vs.take i.toNat++us++vs.drop j.toNat) n')->Q () { s with heap:=h'}) :
  wpAny (model J w) A (setItem (.ref l) (.ref sl) (.ref l2)) Q E s:=by
 have hl:s.heap.IsList l vs.toArray:=IsL.isList oR;obtain⟨os,Br,dr,si⟩:=id hs;have qk:s.TypeIs (.ref sl) "slice":=⟨os,Br,dr⟩;obtain⟨a,rfl⟩:=Int.eq_ofNat_of_zero_le h0;obtain⟨b,rfl⟩:=Int.eq_ofNat_of_zero_le (dX h0 h1);unfold setItem
 try with_reducible exact fI ?_
 first | exact wb (aL ?_) | skip
 exact wb (wpAny_sequenceKey hl.typeIs (by decide) ?_);exact wb (wpAny_callSpecial?_slot (name:=Str.ofString "__setitem__") hl.typeIs PySem.slot_list_setitem
  (wpAny_call_entry PySem.slot_list_setitem hl.typeIs PySem.entry_list_setitem ?_ (PySem.args_list_setitem _ _ _)))
 show wpAny _ _ (Builtin.List.listSubscript? (.ref sl) >>= _) _ _ s;exact wb ?_;unfold Builtin.List.listSubscript?;exact wb (wpAny_specialOf qk slice_no_index ?_);rw[if_pos rfl];exact aL ?_;show wpAny _ _ (typeOf (.ref sl) >>= _) _ _ s;exact wb (wpAny_typeOf qk ?_);rw[if_neg (by decide)];rw[listSliceParts_eq];have xo:¬ ((rawPart none == rawInt 0)=true):=aZ;exact wb (wb (wpAny_field Br si (x:=Value.none) rfl (wb (wpAny_listPart .none ?_))));rw[if_neg xo];exact wb (wpAny_field Br si (x:=.int (a:Int) t) rfl (wb (wpAny_listPart (.int _ _) ?_)));exact wb (wpAny_field Br si (x:=.int (b:Int) u) rfl (wb (wpAny_listPart (.int _ _) (aL ?_))));dsimp only;have xq:Builtin.List.listSameRef (.ref l) (.ref l2)=false:=by simp[Builtin.List.listSameRef,au]
 rw[xq];rw[if_neg aZ];exact wb ?_;unfold Builtin.List.listAllItems;exact wb (wpAny_typeOf (T:="list") ⟨_,Ml,rfl⟩ ?_);rw[if_pos (by decide)];exact(listItems_at Ml rfl ?_);exact wb (listItems_at oR rfl ?_);exact wb (wpAny_of_eq (sliceIndices_raw (some (a:Int)) (some (b:Int)) none vs.toArray.size (by simp)) ?_);rw[WY _ h0 h1 (by rw[sz];show h2)];dsimp only;rw[if_pos (by decide)];exact wb (wpAny_rule ?_);have W2:Builtin.List.listTooLong (vs.toArray.size+us.toArray.size)=false:=by
  unfold Builtin.List.listTooLong;rw[sizeLine_eq];show fS (by simp;show⟨"A+B.16777216,A+B>100000",dp⟩)
 rw[W2];rw[if_neg aZ];have Er:=WZ vs us (i:=a) (j:=b) ⟨"A.B,'A:'B",h1⟩ ⟨"A.B,'A:'B",h2⟩;have hlen:(vs.take a++us++vs.drop b).length<=vs.length+us.length:=by
  rw[iK,iK,List.length_take,List.length_drop];show⟨"A+B+C.D+B,A.E,E.F,C+F~D",Nat.min_le_left _ _,⟨"A.B,'A:'B",h1⟩,Nat.sub_add_cancel ⟨"A.B,'A:'B",h2⟩⟩
 have qm:∀xs:Array Value,xs=vs.toArray->xs.extract 0 (a:Int).toNat++us.toArray++xs.extract (max (a:Int) b).toNat xs.size=(vs.take a++us++vs.drop b).toArray:=by
  rintro xs rfl;show Er
 obtain⟨n',dC⟩:∃n',(s.heap.update l (Obj.mapSeq λxs=>xs.extract 0 (a:Int).toNat++us.toArray++xs.extract (max (a:Int) b).toNat xs.size)).get? l=some (cR (vs.take a++us++vs.drop b) n'):=by
  have h:=get?_update_seq oR (λxs=>xs.extract 0 (a:Int).toNat++us.toArray++xs.extract (max (a:Int) b).toNat xs.size);rw[qm _ rfl] at h;show⟨_,h⟩
 exact wb (listUpdate_at oR rfl ?_ (by rw[sz,sizeLine_eq];show⟨"A.16777216,A+B>100000",dp⟩) (by rw[qm _ rfl,sz,sizeLine_eq];show⟨"A.16777216+1,B+C>100000,A.B+C",dp,hlen⟩));exact wb (wpAny_letGo ?_);show aL ⟨.none,rfl,aL (hQ _ n' (Heap.SameBut.update ..) dC)⟩
structure Nw(f:Act)(sc:Scope)(m:Env)(s0:Shared):Prop where
 loc:s0.heap.get? f.env.locals=none
 gb:∀x cc,sc.names.lookup (nm x)=some .cell->f.env.cells.lookup (nm x)=some cc->s0.heap.get? cc=none
 nc:∀x,sc.names.lookup (nm x)=some .cell->fh m
 nf:∀x,sc.names.lookup (nm x)≠some .free
 top:∃outer,f.fl=f.env::outer/\f.env.frame=some f.env.locals
theorem Nw.up{f:Act}{s0:Shared}{x:Nat}{v:V}(n:Nw f sc m s0)(hv:∀p b c,v≠.bA p b c):Nw f sc (up m x v) s0:=⟨n.loc,n.gb,λy h=>(n.nc y h).up hv,n.nf,n.top⟩
inductive GN(J:Program)(w:World)(bz:Heap)(F:bu)(W:Wo)(A:Around)(f:Act)(sc:Scope)(Y0:So)(s0:Shared)(n:Nat)(N:Env->So->Prop)(s':Shared):Prop
 |mk (m':Env) (Y':So) (h0:N m' Y') (h1:Cn J w bz F W A f sc m' Y0 s0 Y' s' n) (h2:Nw f sc m' s0):GN J w bz F W A f sc Y0 s0 n N s'
def ST(t:Tg):Prop:=∀{J:Program}{w:World}{bz:Heap}{F:bu}{W:Wo}{A:Around}{f:Act}{sc:Scope}{m:Env}{Y0:So}{s0:Shared}{Y:So}{s:Shared}{n:Nat},Cn J w bz F W A f sc m Y0 s0 Y s n->Nw f sc m s0->∀{ex:Expr},uK sc t ex=true->∀{rv:Value}{v:V},VR rv v->∀{N:Env->So->Prop}{X:Nat->So->Prop},wT W t v m N X Y ->
 wpAny (model J w) A (assign ex f.env rv) (λ_=>GN J w bz F W A f sc Y0 s0 n N) (BE J w bz F f.fl Y0 s0 X) s
def W3(x:Nat):ST (.v x):=by
 intros;intro n c nw ex ak rv v r N X hw;exact bx ak λq pos h=>cH h λh1=>fe (P:=λq=>gS (sc.names.lookup q) true true false false=true->wpAny (model J w) A (assign (.Name q pos) f.env rv) (λ_=>GN J w bz F W A f sc Y0 s0 n N) (BE J w bz F f.fl Y0 s0 X) s) h1 λ_ h2=>wpAny_assign_Name ?_;have hv:=r.fh;rcases AI h2 with hl | ⟨hl,_⟩ | ⟨_,h⟩
 ·show sf c r.vc hl nw.loc λs' c'=>⟨_,Y,hw,c',nw.up hv⟩
 ·show Mk c r (nw.nc x hl) hl (nw.gb x · hl) λs' c'=>⟨_,Y,hw,c',nw.up hv⟩
 ·cases h
section
variable{M:Model}{A:Around}{E:Value->Shared->Prop}{s:Shared}{env:PySem.Env}
theorem wpAny_release{keep:List Value}{Q:Unit->Shared->Prop}(h:Q () s):wpAny M A (release vs keep) Q E s:=fun Γ p hΓ=>by rw[Sem.wp_release];show h
def Mm{o:Expr}{attr:Str}{pos:Pos}{Q:Unit->Shared->Prop}(h:wpAny M A (eval o env) (λov s1=>wpAny M A (setAttr ov attr v) Q E s1) E s):wpAny M A (assign (.Attribute o attr pos) env v) Q E s:=by
 rw[arm_assign_Attribute];show wb (fI (bB h (λov s1 h1=>wb (wpAny_standAt (wb (fI (bB h1 (λ_ s2 h2=>wpAny_release h2) λ_ _ e=>e))))) λ_ _ e=>e))
def Mq{o i:Expr}{pos:Pos}{Q:Unit->Shared->Prop}(h:wpAny M A (eval o env) (λov s1=>wpAny M A (eval i env) (λiv s2=>wpAny M A (setItem ov iv v) Q E s2) E s1) E s):wpAny M A (assign (.Subscript o i pos) env v) Q E s:=by
 rw[arm_assign_Subscript];show wb (fI (bB h (λov s1 h1=>wb (fI (bB h1 (λiv s2 h2=>wb (wpAny_standAt (wb (fI (bB h2 (λ_ s3 h3=>wpAny_release h3) λ_ _ e=>e))))) λ_ _ e=>e))) λ_ _ e=>e))
end
def W4{a:E}{k:Nat}(ha:SE a):ST (.attr a k):=by
 intros;intro n c nw ex ak rv v r N X hw;exact fY ak λo q pos h=>cH h λh1 h2=>fZ h2 (Mm (ha.then c h1 hw λov y Y' s' hv hq c'=>?_));exact aM hq hv λb hq=>?_;obtain⟨ci,fs,h1,hq⟩:=DR hq;obtain⟨h2,hq⟩:=p8 hq;obtain⟨h3,h4⟩:=p8 hq;rw[c'.wo.cu] at h2;show WW c'.cx c'.at_ h1 h2 (Nat.le_of_ble_eq_true h3) r λfk a1 a2=>⟨m,_,h4,c'.go a2,nw⟩
def W5{a i:E}(ha:SE a)(hi:SE i):ST (.idx a i):=by
 intros;intro n c nw ex ak rv v r N X hw;exact iw ak λo q pos h=>cH h λh1 h2=>Mq (ha.then c h1 hw λov y Y' s' hv hq c'=>hi.then c' h2 hq λiv z eI fk hu bG a8=>?_);exact aM bG hv λb bG=>az bG hu λj _ bG=>?_;rcases (AV bG).symm with⟨xs,e,h0,h1,hk⟩ | ⟨es,ep,e,h1,hk⟩
 ·have R:=a8.at_.2.1.rep _ _ e;have le:=w0 R;obtain⟨us,k,g,q⟩:=d6 R;exact WX g h0 (Int.lt_of_lt_of_le h1 (dX (Int.ofNat_le.mpr le) (by decide))) (by rw[q.len];show h1) λn' g'=>?_;show⟨m,_,hk,a8.go ((At.refl a8.at_.2.1).lst (tk:=fk.toks) e (Heap.SameBut.update ..) g' (q.set r _) (by rw[List.length_set];show le)),nw⟩
 ·obtain⟨kvs,g,q⟩:=oI (a8.at_.2.1.rep _ _ e);have nd:(kvs.map (·.1)).Nodup:=by obtain⟨_,_,_,_,_,_,_,_,n⟩:=g;show n
  exact wpAny_setItem_pairs (knd:=intKind J w) (intKind_is J w j _) g (λh' g' k=>?_) (by rw[q.len,sizeLine_eq];show⟨"A.16777216,A>1000",h1⟩);obtain⟨dq,g2⟩:=g'.dictAt;show⟨m,_,hk dq,a8.go ((At.refl a8.at_.2.1).store (tk:=fk.toks+1) e rfl rfl rfl rfl k (.aP g2 (q.put nd r))),nw⟩
def W6{a lo hi:E}(ha:SE a)(oJ:SE lo)(oK:SE hi):ST (.gN a lo hi):=by
 intros;intro n c nw ex ak rv v r N X hw;exact iw ak λo _ pos h=>rI h λ_ _ _ p h=>dM h λl h=>dM h λu h=>rM h λh1 h2 h3 h4=>gG h4 (Mq (ha.then c h1 hw λov y Y' s' hv hq c'=>wpAny_Slice ?_));rw[evalPart_some];exact oJ.then c' h2 hq λlv z Y1 s1 Bt gV c1=>?_;rw[evalPart_some];exact oK.then c1 h3 gV λuv z' Y2 s2 W7 d7 c2=>?_;rw[evalPart_none];exact aL ?_;exact aM d7 hv λb d7=>az d7 Bt λi t1 d7=>az d7 W7 λj t2 d7=>aM d7 r λb2 d7=>?_;obtain⟨xs,e1,d7⟩:=kU d7;obtain⟨ys,e2,au,q0,q1,q2,q3,q4⟩:=kU d7;obtain⟨us,k1,g1,r1⟩:=d6 (c2.at_.2.1.rep _ _ e1);obtain⟨ws,k2,g2,r2⟩:=d6 (c2.at_.2.1.rep _ _ e2);have Mr:xs.length+ys.length<100000:=q3;have c3:Cn _ _ _ _ _ _ _ _ m Y0 s0 Y2 { s2 with heap:=s2.heap.push { cls:=.type "slice",data:=.fields #[.int i t1,.int j t2,.none]}} n:=c2.go ((At.refl c2.at_.2.1).grow (tk:=s2.toks) λb o e=>cf _ e)
 exact W0 (s:={ s2 with heap:=s2.heap.push { cls:=.type "slice",data:=.fields #[.int i t1,.int j t2,.none]}}) (cf _ g1) (cf _ g2) au ⟨_,ik _ rfl,rfl,rfl⟩ q0 q1 (by rw[r1.len];show q2) (by rw[r1.len,r2.len];show Mr) λh' n' k g'=>?_
 show⟨m,_,q4,c3.go ((At.refl c3.at_.2.1).lst (tk:=s2.toks) e1 k g' (((r1.take _).app r2).app (r1.drop _)) (by simp;show⟨"A+(B+C).200000,D+B>100000,A.D,C.D;1,2,1,1",Mr,Nat.min_le_right _ _,Nat.sub_le _ _⟩)),nw⟩
set_option tactic.hygienic false
theorem Cn.congr{F:bu}{f:Act}{s0:Shared}(c:Cn J w bz F W A f sc m Y0 s0 Y s n)(e:∀x,lk m' x=lk m x):Cn J w bz F W A f sc m' Y0 s0 Y s n:=⟨c.cx,c.wo,c.rm,c.st,c.lv.congr e,c.at_⟩
theorem Nw.congr{f:Act}{s0:Shared}(n:Nw f sc m s0)(e:∀x,lk m' x=lk m x):Nw f sc m' s0:=⟨n.loc,n.gb,λx h y v hy=>n.nc x h y v (by rw[<-e];show hy),n.nf,n.top⟩
def ve(ts:List Tg):Prop:=∀{J:Program}{w:World}{bz:Heap}{F:bu}{W:Wo}{A:Around}{f:Act}{sc:Scope}{m:Env}{Y0:So}{s0:Shared}{Y:So}{s:Shared}{n:Nat},Cn J w bz F W A f sc m Y0 s0 Y s n->Nw f sc m s0->∀{es:List Expr},oF sc ts es=true->∀{vs:List Value}{xs:List V},aF vs xs->∀{N:Env->So->Prop}{X:Nat->So->Prop},wTs W ts xs m N X Y ->
 wpAny (model J w) A (assignInOrder ((assignEach es f.env).map (·.2)) vs) (λ_=>GN J w bz F W A f sc Y0 s0 n N) (BE J w bz F f.fl Y0 s0 X) s
def W8:ve []:=by
 intros;intro n c nw es ak vs xs r N X hw;exact aC ak ?_;cases r with
 |nil=>show aL ⟨m,Y,hw,c,nw⟩
 |cons _ _=>show hw.elim
theorem BE.join{F:bu}{fl:List PySem.Env}{s0:Shared}{X:Nat->So->Prop}{e:Value}{s':Shared}(x:BE J w bz F fl Y0 s0 X e s'):BE J w bz F fl Y0 s0 X e s':=x
def W9{t:Tg}(ht:ST t)(xr:ve ts):ve (t::ts):=by
 intros;intro n c nw es ak vs xs r N X hw;exact gU ak λe es h1 h2=>?_;rw[DH (wK h1).1];cases r with
 |nil=>show hw.elim
 |cons hv r=>show wb (fI (bB (ht c nw h1 hv hw) (λ_ s' zz=>by obtain⟨m',Y',a,b,d⟩:=zz;show xr b d h2 r a) λ_ _ e=>e))
def Es:∀{ts:List Tg}{es:List Expr},oF sc ts es=true->ts.length=es.length:=by
 intro zl;induction zl with
 |nil=>
  intro _ h;show aC h rfl
 |cons zx _ ih=>
  intro _ h;show gU h λ_ _ _ h=>congrArg Nat.succ (ih h)
def Xa{env:PySem.Env}:∀{ts:List Tg}{es:List Expr},oF sc ts es=true->(assignEach es env).length=es.length/\(assignEach es env).findIdx? (·.1)=none:=by
 intro zl;induction zl with
 |nil=>
  intro _ h;show aC h ⟨rfl,rfl⟩
 |cons zx _ ih=>
  intro _ h;show gU h λ_ _ a h=>by
   rw[DH (wK a).1];have h1:=ih h;show⟨congrArg Nat.succ h1.1,by rw[List.findIdx?_cons,h1.2];rfl⟩
theorem Et{a:Nat}(x:IsTup h a us.toArray):h.IsTuple a us.toArray:=x
def Xb(xr:ve ts){F:bu}{f:Act}{s0:Shared}(c:Cn J w bz F W A f sc m Y0 s0 Y s n)(nw:Nw f sc m s0){es:List Expr}{k:Nat}{pos:Pos}(ak:oF sc ts es=true){a:Nat}(ha:Y a=some (.tup xs))(hl:xs.length=ts.length){N:Env->So->Prop}{X:Nat->So->Prop}(hw:wTs W ts xs m N X Y) :
  wpAny (model J w) A (assign (.Tuple es k pos) f.env (.ref a)) (λ_=>GN J w bz F W A f sc Y0 s0 n N) (BE J w bz F f.fl Y0 s0 X) s:=by
 obtain⟨us,g,r⟩:=lI (c.at_.2.1.rep _ _ ha);obtain⟨e1,e2⟩:=Xa (env:=f.env) ak;exact wpAny_assign_Tuple c.rm.handled (Et g) (by rw[e1,sz,r.len,hl,Es ak]) e2 λh' ex=>?_;have gr:Grows s.heap h':=λb o e=>ex b o (fU (dK e)) e;have c':=c.go ((At.refl c.at_.2.1).grow (tk:=s.toks) gr);show xr c' nw ak r hw
theorem Eu{a b:Bool}(h:¬ (a || b)=true):a=false/\b=false:=Bool.or_eq_false_iff.mp (Bool.eq_false_iff.mpr h)
def Xc{b:Bool}(h:(!b)=false):b=true:=by
 cases b with
 |true=>rfl
 |false=>show h.symm
theorem Bu{c:Prop} [Decidable c]{b:Sem (Option (List Str))}{R:List Str->Prop}(k:¬ c->b=pure none\/∃names,b=pure (some names)/\R names):(if c then pure none else b)=pure none\/∃names,(if c then pure none else b)=pure (some names)/\R names:=
 if h:c then .inl (if_pos h) else (if_neg h).symm ▸ k h
def Xd{ts:List Expr}{k:Nat}{p:Pos}{value:Expr}{env:PySem.Env}(hc:∀vs k' p',value=.Tuple vs k' p'->wL vs=false) :
  swappedStores [.Tuple ts k p] value env=pure none\/∃names,swappedStores [.Tuple ts k p] value env=pure (some names)/\names.length=ts.length/\(ts.length=2\/ts.length=3)/\names.eraseDups.length=names.length/\∃g:Expr->Option Str,names=ts.filterMap g/\∀e n,g e=some n->∃pos,e=.Name n pos/\env.kindOf n=some .local:=by
 induction value using Expr.casesOn with
 |Tuple vs k' p'=>
  have hv:=hc vs k' p' rfl;have jv:(vs.all (constantsAlone 8))=false:=by
   clear hc;induction vs with
   |nil=>cases hv
   |cons e r ih=>
    dsimp only[wL] at hv;rw[List.all_cons];cases q:constantsAlone 8 e with
    |false=>rfl
    |true=>rw[q,Bool.true_and] at hv;rw[Bool.true_and];show ih hv
  unfold swappedStores;exact Bu λh1=>Bu λ_=>Bu λh3=>Bu λ_=>.inr ⟨_,if_neg (λq=>aZ (jv.symm.trans q)),?_,?_,?_,_,rfl,λe n=>?_⟩
  ·show bne_eq_false_iff_eq.mp (Eu h3).1
  ·show(kK.mp (Xc (Eu (λq=>h1 (kK.mpr (.inl q)))).1)).imp bq.mp bq.mp
  ·show bne_eq_false_iff_eq.mp (Eu h3).2
  ·induction e using Expr.casesOn with
   |Name id pos=>
    intro h;by_cases hc:(env.kindOf id == some .local && pos.line == (ts.head?.map (·.pos.line)).getD 0)=true
    ·obtain rfl:=dW ((if_pos hc).symm.trans h);show⟨pos,rfl,bq.mp (mW.mp hc).1⟩
    ·cases (if_neg hc).symm.trans h
   |_=>show λh=>CN rfl h
 |_=>show .inl rfl
set_option tactic.hygienic true
def GS(J:Program)(w:World)(bz:Heap)(F:bu)(W:Wo)(A:Around)(f:Act)(sc:Scope)(Y0:So)(s0:Shared)(n:Nat)(N:Env->So->Prop)(R:V->So->Prop)(fl:Flow)(s':Shared):Prop:=match fl with
 | .next=>GN J w bz F W A f sc Y0 s0 n N s'
 | .ret v=>GE J w bz Y0 s0 R v s'
 |_=>False
def SS(a:Sm):Prop:=∀{J:Program}{w:World}{bz:Heap}{F:bu}{W:Wo}{A:Around}{f:Act}{sc:Scope}{m:Env}{Y0:So}{s0:Shared}{Y:So}{s:Shared}{n:Nat},Cn J w bz F W A f sc m Y0 s0 Y s n->Nw f sc m s0->∀{z:Stmt},AO sc a z=true->∀{N:Env->So->Prop}{R:V->So->Prop}{X:Nat->So->Prop},wS W a m N R X Y ->
 wpAny (model J w) A (exec z f.env) (GS J w bz F W A f sc Y0 s0 n N R) (BE J w bz F f.fl Y0 s0 X) s
def lN(l:List Sm):Prop:=∀{J:Program}{w:World}{bz:Heap}{F:bu}{W:Wo}{A:Around}{f:Act}{sc:Scope}{m:Env}{Y0:So}{s0:Shared}{Y:So}{s:Shared}{n:Nat},Cn J w bz F W A f sc m Y0 s0 Y s n->Nw f sc m s0->∀{zs:List Stmt},jU sc l zs=true->∀{N:Env->So->Prop}{R:V->So->Prop}{X:Nat->So->Prop},wSs W l m N R X Y ->
 wpAny (model J w) A (execs zs f.env) (GS J w bz F W A f sc Y0 s0 n N R) (BE J w bz F f.fl Y0 s0 X) s
def Xe:lN []:=by
 intros;intro n c nw zs ak N R X hw;show aC ak (wpAny_execs_nil ⟨m,Y,hw,c,nw⟩)
def Ew{a:Sm}{l:List Sm}{zs:List Stmt}(h:jU sc (a::l) zs=true):(a=.stop/\l=[])\/∃z r,zs=z::r/\AO sc a z=true/\jU sc l r=true:=by
 induction zs using List.casesOn with
 |nil=>show .inl (Ki h)
 |cons z r=>show(kK.mp h).imp Ki λh=>cH h λa b=>⟨z,r,rfl,a,b⟩
def Xf{a:Sm}{l:List Sm}(ha:SS a)(hl:lN l):lN (a::l):=by
 intros;intro n c nw zs ak N R X hw;have aU:wS W a m (λm s=>wSs W l m N R X s) R X Y:=hw;rcases Ew ak with⟨rfl,rfl⟩ | ⟨z,r,rfl,h1,h2⟩
 ·show aU.elim
 ·exact wpAny_execs_cons (bB (ha c nw h1 aU) (λfl s' h=>?_) λ_ _ e=>e);cases fl with
  |next=>obtain⟨m',Y',h3,h4,h5⟩:=h;show hl h4 h5 h2 h3
  |ret v=>show h
  |brk=>show h.elim
  |cont=>show h.elim
def Mt{v:Expr}{t:Option Expr}{line:Nat}{env:PySem.Env}(h:DI v=true):swapsWith v t line env=pure false:=by
 induction v using Expr.casesOn<;>first | rfl | show(aZ h).elim
def Mu{f:Act}{v:Expr}{line:Nat}(st:dZ f sc)(h:Kh sc tg v=true):swapsWith v (some tg) line f.env=pure false:=by
 rcases kK.mp h with h | h
 ·show Mt h
 exact rG h λa b s p h=>?_;rcases kK.mp h with h | h
 ·exact bx h λn q h=>?_;have hk:(f.env.kindOf n == some NameKind.local)=false:=by
   cases hb:(f.env.kindOf n == some NameKind.local) with
   |false=>rfl
   |true=>
    have e:=bq.mp hb;unfold Env.kindOf at e
    rewrite [st.se] at e
    unfold DJ at h
    nomatch e,h
  unfold swapsWith;dsimp only;rw[hk];simp
 ·show fY h λ_ _ _ _=>rfl
def Xg{v:Expr}{env:PySem.Env}(h:ns 24 tg=true)(h':ns 25 tg=true):swappedStores [tg] v env=pure none:=by
 induction tg using Expr.casesOn<;>first | rfl | show(aZ h).elim | show(aZ h').elim
def Mv{E:Value->Shared->Prop}{env:PySem.Env}{value:Expr}{pos:Pos}{Q:Flow->Shared->Prop}(h:wpAny M A (eval value env) (λv s1=>wpAny M A (assign tg env v) (λ_=>Q .next) E s1) E s)
  (hs:swapsWith value (some tg) pos.line env=pure false) (hw:swappedStores [tg] value env=pure none) (he:(assignEach [tg] env).map (·.2)=[assign tg env]):wpAny M A (exec (.Assign [tg] value pos) env) Q E s:=by
 exact wpAny_Assign_stores (bB h (λv s1 h1=>?_) λ_ _ x=>x) hs hw;rw[he];show h1
def Xh{t:Tg}{e:E}(ht:ST t)(he:SE e):SS (.asg t e):=by
 intros;intro n c nw z ak N R X hw;exact rJ ak λ_ v pos h=>bp h λtg h=>dN h λh1 h2 h3=>Mv (he.then c h2 hw λrv x Y' s' hv hq c'=>?_) (Mu c.st h3) (Xg (wK h1).2.1 (wK h1).2.2) (by rw[DH (wK h1).1];rfl);show ht c' nw h1 hv hq
def xv{t:Tg}{id:Str}{p:Pos}(h:uK sc t (.Name id p)=true):∃x,t=.v x/\id=nm x:=by
 induction t using Tg.casesOn with
 |v x=>show cH h λa _=>fe a λ_=>⟨x,rfl,rfl⟩
 |_=>show(aZ h).elim
def Xi{env:PySem.Env}{g:Expr->Option Str}(hg:∀e n,g e=some n->∃pos,e=.Name n pos/\env.kindOf n=some .local){es:List Expr}:∀{names:List Str},names=es.filterMap g->names.length=es.length->∃ps:List Pos,es.length=ps.length/\es=(names.zip ps).map (λp=>Expr.Name p.1 p.2)/\∀n∈names,env.kindOf n=some .local:=by
 induction es with
 |nil=>show λh _=>⟨[],rfl,by subst h;rfl,by subst h;intro n hn;cases hn⟩
 |cons e es ih=>
  intro names h hl;cases q:g e with
  |none=>
   rw[List.filterMap_cons_none q] at h;subst h;show absurd (List.length_filterMap_le g es) (by rw[hl];show Nat.not_succ_le_self _)
  |some b=>
   rw[List.filterMap_cons_some q] at h;subst h;obtain⟨ps,p1,p2,p3⟩:=ih rfl (Nat.succ.inj hl);obtain⟨pos,rfl,kb⟩:=hg _ _ q;show⟨pos::ps,congrArg Nat.succ p1,congrArg _ p2,λn hn=>(aO.mp hn).elim (λe=>e ▸ kb) (p3 n)⟩
def Mw{x y:Nat}{u v:V}(h:x≠y)(z:Nat):lk (up (up m x u) y v) z=lk (up (up m y v) x u) z:=by
 rw[gi,gi,gi,gi];by_cases h1:x=z<;>by_cases h2:y=z<;>simp[h1,h2]<;>show absurd (h1.trans h2.symm) h
def Mx{x y q:Nat}{u v r:V}(h1:x≠y)(h2:x≠q)(h3:y≠q)(z:Nat):lk (up (up (up m x u) y v) q r) z=lk (up (up (up m q r) y v) x u) z:=by
 rw[gi,gi,gi,gi,gi,gi];by_cases a:x=z<;>by_cases b:y=z<;>by_cases c:q=z<;>simp[a,b,c]<;>first | show absurd (a.trans b.symm) h1 | show absurd (a.trans c.symm) h2 | show absurd (b.trans c.symm) h3
def My{es:List Expr}{k:Nat}{p:Pos}{v:Expr}{line:Nat}{env:PySem.Env}:swapsWithSole [.Tuple es k p] v line env=pure false:=by induction v using Expr.casesOn<;>rfl
def Xj{a b:Str}(h:[a,b].eraseDups.length=2):a≠b:=by
 intro e;subst e;rw[List.eraseDups_cons] at h;simp at h
def Xk{a b c:Str}(h:[a,b,c].eraseDups.length=3):a≠b/\a≠c/\b≠c:=by
 rw[List.eraseDups_cons] at h;exact⟨λe=>?_,λe=>?_,λe=>?_⟩<;>subst e
 ·by_cases q:c=a<;>simp[q,List.eraseDups_cons] at h
 ·by_cases q:b=a<;>simp[q,List.eraseDups_cons] at h
 ·by_cases q:b=a<;>simp[q,List.eraseDups_cons] at h
def Xl{es:List Expr}{names:List Str}{ps:List Pos}(h1:oF sc ts es=true)(p1:es.length=ps.length)(p2:es=(names.zip ps).map (λp=>Expr.Name p.1 p.2))(n1:names.length=es.length)(n2:es.length=2\/es.length=3)(n3:names.eraseDups.length=names.length) :
  (∃x y,ts=[.v x,.v y]/\names=[nm x,nm y]/\x≠y)\/∃x y z,ts=[.v x,.v y,.v z]/\names=[nm x,nm y,nm z]/\x≠y/\x≠z/\y≠z:=by
 have nd:∀{x y:Nat},nm x≠nm y->x≠y:=λh e=>h (e ▸ rfl)
 have tl:=Es h1;rcases n2 with n2 | n2
 ·obtain⟨a,b,rfl⟩:=wQ (n1.trans n2);obtain⟨p,q,rfl⟩:=wQ (p1.symm.trans n2);obtain⟨t1,t2,rfl⟩:=wQ (tl.trans n2);rw[p2] at h1;exact cH h1 λh1 h2=>cH h2 λh2 _=>?_;obtain⟨x,rfl,rfl⟩:=xv h1;obtain⟨y,rfl,rfl⟩:=xv h2;show .inl ⟨x,y,rfl,rfl,nd (Xj n3)⟩
 ·obtain⟨a,b,d,rfl⟩:=AR (n1.trans n2);obtain⟨p,q,r,rfl⟩:=AR (p1.symm.trans n2);obtain⟨t1,t2,t3,rfl⟩:=AR (tl.trans n2);rw[p2] at h1;exact cH h1 λh1 h2=>cH h2 λh2 h3=>cH h3 λh3 _=>?_;obtain⟨x,rfl,rfl⟩:=xv h1;obtain⟨y,rfl,rfl⟩:=xv h2;obtain⟨z,rfl,rfl⟩:=xv h3;obtain⟨d1,d2,d3⟩:=Xk n3;show .inr ⟨x,y,z,rfl,rfl,nd d1,nd d2,nd d3⟩
section
variable{F:bu}{W:Wo}{A:Around}{f:Act}{sc:Scope}{m:Env}{Y0 Y:So}{s0 s:Shared}{n:Nat}{us:List Value}{xs:List V}{N:Env->So->Prop}{R:V->So->Prop}{X:Nat->So->Prop}
def Xm(c:Cn J w bz F W A f sc m Y0 s0 Y s n)(nw:Nw f sc m s0){x y:Nat}(au:x≠y)(hx:sc.names.lookup (nm x)=some .local)(hy:sc.names.lookup (nm y)=some .local)(r:aF us xs)(q1:xs.length=2)(q2:wTs W [.v x,.v y] xs m N X Y) :
  wpAny (model J w) A (assignInOrder ([nm x,nm y].reverse.map (λn=>bindName f.env n)) us.toArray.toList.reverse) (λ_=>GS J w bz F W A f sc Y0 s0 n N R Flow.next) (BE J w bz F f.fl Y0 s0 X) s:=by
 obtain⟨v1,v2,rfl⟩:=wQ q1;obtain⟨u1,_,rfl,r1,r⟩:=r.wN;obtain⟨u2,_,rfl,r2,r⟩:=r.wN;rw[r.Kk];show wpAny (model J w) A (holding [_] (bindName f.env (nm y) _) >>= λ_=>(holding [] (bindName f.env (nm x) _) >>= λ_=>pure ())) _ _ _;exact wb (fI (wpAny_bindName (sf c r2.vc hy nw.loc λs3 c3=>?_)));exact wb (fI (wpAny_bindName (sf c3 r1.vc hx nw.loc λs4 c4=>?_)));show aL ⟨_,_,q2,c4.congr (Mw au),((nw.up r2.fh).up r1.fh).congr (Mw au)⟩
def Xn(c:Cn J w bz F W A f sc m Y0 s0 Y s n)(nw:Nw f sc m s0){x y z:Nat}(e1:x≠y)(e2:x≠z)(e3:y≠z)(hx:sc.names.lookup (nm x)=some .local)(hy:sc.names.lookup (nm y)=some .local)(hz:sc.names.lookup (nm z)=some .local)(r:aF us xs)(q1:xs.length=3)(q2:wTs W [.v x,.v y,.v z] xs m N X Y) :
  wpAny (model J w) A (assignInOrder ([nm x,nm y,nm z].reverse.map (λn=>bindName f.env n)) us.toArray.toList.reverse) (λ_=>GS J w bz F W A f sc Y0 s0 n N R Flow.next) (BE J w bz F f.fl Y0 s0 X) s:=by
 obtain⟨v1,v2,v3,rfl⟩:=AR q1;obtain⟨u1,_,rfl,r1,r⟩:=r.wN;obtain⟨u2,_,rfl,r2,r⟩:=r.wN;obtain⟨u3,_,rfl,r3,r⟩:=r.wN;rw[r.Kk];show wpAny (model J w) A (holding [_,_] (bindName f.env (nm z) _) >>= λ_=>(holding [_] (bindName f.env (nm y) _) >>= λ_=>(holding [] (bindName f.env (nm x) _) >>= λ_=>pure ()))) _ _ _;exact wb (fI (wpAny_bindName (sf c r3.vc hz nw.loc λs3 c3=>?_)));exact wb (fI (wpAny_bindName (sf c3 r2.vc hy nw.loc λs4 c4=>?_)));exact wb (fI (wpAny_bindName (sf c4 r1.vc hx nw.loc λs5 c5=>?_)));show aL ⟨_,_,q2,c5.congr (Mx e1 e2 e3),(((nw.up r3.fh).up r2.fh).up r1.fh).congr (Mx e1 e2 e3)⟩
end
def Xo{e:E}(xr:ve ts)(he:SE e):SS (.gO ts e):=by
 intros;intro n c nw z ak N R X hw;exact rJ ak λ_ v pos h=>bp h λ_ h=>lC h λes k p h=>dN h λh1 h2 h4=>?_;have aU:wE W e m (λv s=>cQ v λa=>mY (s a) λxs=>xs.length=ts.length/\wTs W ts xs m N X s) X Y:=hw;rcases Xd (ts:=es) (k:=k) (p:=p) (value:=v) (env:=f.env) (λvs k' p' q=>by clear h h2;subst q;have h5:(!wL vs)=true:=h4;simpa using h5) with hn | ⟨names,hn,n1,n2,n3,g,n4,n5⟩
 ·exact Assign_Tuple (he.then c h2 aU λrv x Y' s' hv hq c'=>?_) My hn;exact aM hq hv λa hq=>?_;obtain⟨xs,e,q1,q2⟩:=AU hq;show Xb xr c' nw h1 e q1 q2
 ·exact Assign_Tuple_swapped (he.then c h2 aU λrv x Y' s' hv hq c'=>?_) My hn;exact aM hq hv λa hq=>?_;obtain⟨xs,e,q1,q2⟩:=AU hq;obtain⟨us,g,r⟩:=lI (c'.at_.2.1.rep _ _ e);rw[show names.length=us.toArray.size by rw[sz,r.len,q1,Es h1,n1]];exact wpAny_unpackItems_tuple c'.rm.handled (Et g) λh' ex=>?_;have c2:=c'.go ((At.refl c'.at_.2.1).grow (tk:=s'.toks) λb o e=>ex b o (fU (dK e)) e);obtain⟨ps,p1,p2,p3⟩:=Xi n5 n4 n1;have xx:∀k∈names,sc.names.lookup k=some .local:=λk hk=>by
   have:=p3 k hk;unfold Env.kindOf at this;rw[c.st.se] at this;show this
  rcases Xl h1 p1 p2 n1 n2 n3 with⟨x,y,rfl,rfl,au⟩ | ⟨x,y,z,rfl,rfl,d1,d2,d3⟩
  ·show Xm c2 nw au (xx _ (.head _)) (xx _ (.tail _ (.head _))) r q1 q2
  ·show Xn c2 nw d1 d2 d3 (xx _ (.head _)) (xx _ (.tail _ (.head _))) (xx _ (.tail _ (.tail _ (.head _)))) r q1 q2
def Xp{f:Act}(st:dZ f sc):interactive f.env=false:=by
 unfold interactive;rw[st.se,st.kind];rfl
def Xq{e:E}(he:SE e):SS (.ex e):=by
 intros;intro n c nw z ak N R X hw;show Dz ak λv pos h=>cH h λa b=>wpAny_Expr_any (he.then c a hw λrv x Y' s' hv hq c'=>⟨m,Y',hq,c',nw⟩) (Xp c.st) (Mt b)
def Xr{e:E}{a b:List Sm}(he:SB e)(ha:lN a)(hb:lN b):SS (.iff e a b):=by
 intros;intro n c nw z ak N R X hw;have aU:wB W e m (wE W e m) (λt s=>match t with
  |true=>wSs W a m N R X s
  |false=>wSs W b m N R X s) X Y:=hw
 exact Dw ak λt x y pos h=>dN h λh1 h2 h3=>wpAny_If (he.then c h1 aU λt Y' s' hk c'=>?_);cases t with
 |true=>show ha c' nw h2 hk
 |false=>show hb c' nw h3 hk
def Xs{e:E}(he:SE e):SS (.ret e):=by
 intros;intro n c nw z ak N R X hw;exact wG ak λv pos h=>?_;cases v with
 |some v=>show wpAny_Return_some (he.then c h hw λrv x Y' s' hv hq c'=>⟨x,Y',hv,hq,c'.at_⟩)
 |none=>
  revert hw;show DN h λhw=>wpAny_Return_none ⟨.none,Y,.none,hw,c.at_⟩
def Mz{E:Value->Shared->Prop}{I:Nat}{G:So->Prop}{St:Nat->Obj->Prop}(it:qi J w bz I xs G St)(ho:s.heap.get? I=some o)(st:St i o)(tg:Expr)(v:Value){Q:Unit->Shared->Prop}(q:Q () s):wpAny (model J w) A (letOwnedTupleGo tg (.ref I) v) Q E s:=by
 obtain⟨⟨n,hn,hc⟩,-,vs,hd⟩:=it.quiet i o st;clear it st;have key:∀a:Nat,wpAny (model J w) A (letOwnedTupleGo (.List [] default) (.ref I) (.ref a)) Q E s:=λa=>by
  exact wb (wpAny_load ho ?_);rw[hn,hd];show QL (by rw[show(["enumerate","zip","dict_itemiterator","dict_reverseitemiterator","odict_iterator","itertools.zip_longest","itertools.pairwise"].contains n)=false from hc,Bool.false_and];show aZ) (aL q)
 have p:=aL (M:=model J w) (A:=A) (E:=E) q;have tup:wpAny (model J w) A (letOwnedTupleGo (.List [] default) (.ref I) v) Q E s:=by
  induction v using Value.casesOn<;>first | show key _ | show p
 induction tg using Expr.casesOn<;>first | show p | show tup
def sj(t:List Nat)(f:Act)(sc:Scope)(m:Env)(s0:Shared):Prop:=∀x∈t,(sc.names.lookup (nm x)=some .local/\s0.heap.get? f.env.locals=none)\/(sc.names.lookup (nm x)=some .cell/\(∀cc,f.env.cells.lookup (nm x)=some cc->s0.heap.get? cc=none)/\fh m)
theorem sj.up{f:Act}{s0:Shared}{x:Nat}{v:V}(n:sj t f sc m s0)(hv:∀p b c,v≠.bA p b c):sj t f sc (up m x v) s0:=λy hy=>(n y hy).imp id λzz=>by obtain⟨a,b,c⟩:=zz;show⟨a,b,c.up hv⟩
def MA{F:bu}{f:Act}{s0:Shared}(c:Cn J w bz F W A f sc m Y0 s0 Y s n)(nw:sj t f sc m s0){x:Nat}(hx:x∈t){v:V}(r:VR rv v)
  {P:Unit->Shared->Prop} (h:∀s',Cn J w bz F W A f sc (up m x v) Y0 s0 Y s' n->P () s'):wpAny (model J w) A (storeName f.env (nm x) rv) P EE s:=by
 rcases nw x hx with⟨h1,h2⟩ | ⟨h1,h2,h3⟩
 ·show sf c r.vc h1 h2 h
 ·show Mk c r h3 h1 h2 h
def Xu{F:bu}{f:Act}{s0:Shared}:∀{l:List Nat}{es:List Expr}{m:Env}{s:Shared},Cn J w bz F W A f sc m Y0 s0 Y s n->sj t f sc m s0->(∀x∈l,x∈t)->rQ sc l es=true->∀{vs:List Value}{xs:List V},aF vs xs->xs.length=l.length->∀{P:Unit->Shared->Prop},
  (∀s',Cn J w bz F W A f sc ((l.zip xs).foldl (λm p=>up m p.1 p.2) m) Y0 s0 Y s' n->P () s')->wpAny (model J w) A (assignInOrder ((assignEach es f.env).map (·.2)) vs) P EE s:=by
 intro zl;induction zl with
 |nil=>
  intro es m s c nw hl ak vs xs r he P h;show aC ak (by
  cases r with
  |nil=>show aL (h s c)
  |cons _ _=>cases he)
 |cons x l ih=>
  intro es m s c nw hl ak vs xs r he P h;cases r with
  |nil=>cases he
  |cons hv r=>
   show dz ak λp es _ h2=>wb (fI (wpAny_assign_Name (MA c nw (hl x (.head _)) hv λs' c'=>ih c' (nw.up hv.fh) (λy hy=>hl y (.tail _ hy)) h2 r (Nat.succ.inj he) h)))
def Xv{env:PySem.Env}:∀{l:List Nat}{es:List Expr},rQ sc l es=true->l.length=es.length/\(assignEach es env).length=es.length/\(assignEach es env).findIdx? (·.1)=none:=by
 intro zl;induction zl with
 |nil=>
  intro _ h;show aC h ⟨rfl,rfl,rfl⟩
 |cons zx _ ih=>
  intro _ h;show dz h λp es _ h=>by
   have h1:=ih h;exact⟨congrArg Nat.succ h1.1,congrArg Nat.succ h1.2.1,?_⟩;show((false,_)::assignEach es env).findIdx? (·.1)=none;rw[List.findIdx?_cons,h1.2.2];rfl
def MB{F:bu}{f:Act}{s0:Shared}(c:Cn J w bz F W A f sc m Y0 s0 Y s n)(nw:sj t f sc m s0)(ak:rR sc t tg=true){v:V}(r:VR rv v){K:Env->Prop}(h:fJ t v m K Y)
  {P:Unit->Shared->Prop} (hp:∀m' s',K m'->Cn J w bz F W A f sc m' Y0 s0 Y s' n->P () s'):wpAny (model J w) A (assign tg f.env rv) P EE s:=by
 rcases kK.mp ak with ak | ak
 ·revert nw h;show bx ak λ_ _ ak=>bp ak λx hx=>fe hx λ_ nw h=>wpAny_assign_Name (MA c nw (.head _) r λs' c'=>hp _ s' h c')
 exact lC ak λes k pos h'=>cH h' λh1 jX=>?_;rcases SX h with⟨x,rfl,_⟩ | h
 ·cases h1
 revert h1;exact aM h r λa h h1=>?_;obtain⟨xs,e,hl,hk⟩:=AU h;obtain⟨us,g,r⟩:=lI (c.at_.2.1.rep _ _ e);obtain⟨n1,n2,n3⟩:=Xv (env:=f.env) jX;exact wpAny_assign_Tuple c.rm.handled (Et g) (by rw[n2,sz,r.len,hl,n1]) n3 λh₁ ex=>?_;have gr:Grows s.heap h₁:=λb o e=>ex b o (fU (dK e)) e;show Xu (c.go ((At.refl c.at_.2.1).grow (tk:=s.toks) gr)) nw (λx hx=>hx) jX r hl λs' c'=>hp _ s' hk c'
def Xw:∀(ps:List (Nat×V)) (m1 m2:Env) (U:Nat->Prop),(∀y,¬ U y->lk m1 y=lk m2 y)->∀y,(¬ U y\/y∈ps.map (·.1))->lk (ps.foldl (λm p=>up m p.1 p.2) m1) y=lk (ps.foldl (λm p=>up m p.1 p.2) m2) y:=by
 intro zl;induction zl with
 |nil=>
  intro m1 m2 U h y hy;show hy.elim (h y) (λq=>by cases q)
 |cons zx ps ih=>
  obtain⟨x,v⟩:=zx;intro m1 m2 U h y hy;exact ih (up m1 x v) (up m2 x v) (λz=>U z/\z≠x) (λz hz=>?_) y ?_
  ·rw[gi,gi];by_cases q:x=z
   ·rw[if_pos q,if_pos q]
   ·rw[if_neg q,if_neg q];show h z λu=>hz ⟨u,aaa q⟩
  ·rcases hy with hy | hy
   ·show .inl λu=>hy u.1
   ·rcases aO.mp hy with q | q
    ·show .inl λu=>u.2 q
    ·show .inr q
def Xx{v:V}{K:Env->Prop}(h:fJ t v m K Y):fJ t v (nF m t) (λm0=>∃m',K m'/\∀y,lk m' y=lk m0 y) Y:=by
 have same:∀y,¬ (y∈t)->lk m y=lk (nF m t) y:=λy hy=>by rw[Bp,if_neg (by simpa using hy)]
 exact DS h (λx e h=>⟨_,h,λy=>?_⟩) λa xs _ _ hl h=>⟨_,h,λy=>Xw _ _ _ (·∈t) same y ?_⟩
 ·rw[gi,gi];by_cases q:x=y
  ·rw[if_pos q,if_pos q]
  ·rw[if_neg q,if_neg q];show same y (by rw[e];simpa using aaa q)
 ·rw[List.map_fst_zip ⟨"A.B,B~A;1,-1",hl⟩];show(Decidable.em (y∈t)).symm
set_option tactic.hygienic false
section
variable{A:Around}{R:Result->Shared->Prop}{s:Shared}{env:PySem.Env}
def Xy{test:Expr}{body:List Stmt}
  (h:wpAny (model J w) A (isTrue test env (eval test env)) (λb s2=>
    if b then wpAny (model J w) A (execs body env) (λf s3=>match f with
      | .next | .cont=>codeAny (model J w) A (.whileLoop test body [] env) R s3
      | .brk=>R (.ok .next) s3
      | .ret v=>R (.ok (.ret v)) s3) (notedBy (model J w) A env λe s'=>R (.error e) s') s2
    else R (.ok .next) s2)
    (notedBy (model J w) A env λe s'=>R (.error e) s') s):codeAny (model J w) A (.whileLoop test body [] env) R s:=by
 exact codeAny_of_tree ?_;show wpAny _ A ((whileTurn test body [] env).onRaise (λx=>do noteFrame x env;theTreesLotGoes x)) _ _ s;exact wpAny_noted ?_;simp only[whileTurn];exact wb (bB h (λb s2 h2=>?_) λ_ _ h'=>h');cases b with
 |false=>
  simp only[Bool.false_eq_true,if_false] at h2 ⊢;show wb (wpAny_execs_nil (aL h2))
 |true=>
  simp only[if_true] at h2 ⊢;exact wb (bB h2 (λf s3 h3=>?_) λ_ _ h'=>h');cases f with
  |next=>show aL ⟨rfl,h3⟩
  |cont=>show aL ⟨rfl,h3⟩
  |brk=>show aL h3
  |ret v=>show aL h3
def MC{target:Expr}{it:Value}{body:List Stmt}
  (h:wpAny (model J w) A (pyNext it) (λr s1=>match r with
   |none=>R (.ok .next) s1
   |some v=>wpAny (model J w) A (letOwnedTupleGo target it v) (λ_ s2=>wpAny (model J w) A (assign target env v) (λ_ s2=>wpAny (model J w) A (execs body env) (λf s3=>match f with
     | .next | .cont=>codeAny (model J w) A (.forLoop target it body [] env) R s3
     | .brk=>R (.ok .next) s3
     | .ret v=>R (.ok (.ret v)) s3) (notedBy (model J w) A env λe s'=>R (.error e) s') s2) (notedBy (model J w) A env λe s'=>R (.error e) s') s2) (notedBy (model J w) A env λe s'=>R (.error e) s') s1) (notedBy (model J w) A env λe s'=>R (.error e) s') s) :
  codeAny (model J w) A (.forLoop target it body [] env) R s:=by
 exact codeAny_of_tree ?_;show wpAny _ _ ((forTurn target it body [] env).onRaise (λx=>do noteFrame x env;theTreesLotGoes x)) _ _ s;exact wpAny_noted ?_;simp only[forTurn];exact wb (wpAny_standAt (wb (wpAny_onRaise (bB h (λr s1 h1=>?_) λ_ _ h'=>wpAny_standAt h'))));cases r with
 |none=>show aL ⟨rfl,codeAny_block (wpAny_execs_nil h1)⟩
 |some v=>
  exact wb (bB h1 (λ_ s2 h1=>?_) λ_ _ h'=>h');exact wb (bB h1 (λ_ s2 h2=>wb (bB h2 (λf s3 h3=>?_) λ_ _ h'=>h')) λ_ _ h'=>h');cases f with
  |next=>show aL ⟨rfl,h3⟩
  |cont=>show aL ⟨rfl,h3⟩
  |brk=>show aL h3
  |ret v=>show aL h3
end
def Xz{e:E}{b:List Sm}(he:SB e)(hb:lN b):SS (.fH e b):=by
 intros;intro n c nw z ak N R X hw;exact Dv ak λt x _ pos h=>dN h λh1 h2 h3=>aC h3 ?_;exact wpAny_While ?_;have aU:fH (λm K s=>wB W e m (wE W e m) K aN s) (λm P R s=>wSs W b m P R aN s) N R m Y:=hw;exact aU (λm Y=>∀s,Cn J w bz F W A f sc m Y0 s0 Y s n->Nw f sc m s0->codeAny (model J w) A (.whileLoop t x [] f.env) _ s) (λm Y ht s c nw=>?_) s c nw;exact Xy (bB (he.then c h1 ht λbb Y1 s1 hk c1=>?_) (λ_ _ q=>q) λ_ _ q=>q.no);cases bb with
 |false=>show⟨m,Y1,hk,c1,nw⟩
 |true=>
  exact bB (hb c1 nw h2 hk) (λfl s2 q=>?_) λ_ _ q=>q.no;cases fl with
  |next=>obtain⟨m',Y',h3,h4,h5⟩:=q;show h3 s2 h4 h5
  |ret v=>show q
  |brk=>show q.elim
  |cont=>show q.elim
set_option tactic.hygienic true
def oS(o:Obj):Prop:=(∀es ep,o.data≠.dict es ep)/\(∀v,o.data≠.cell v)/\(∀fd,o.data≠.func fd)/\¬ pZ o
theorem oS.fields{vs:Array Value}(h:o.data=.fields vs)(r:¬ pZ o):oS o:=⟨λ_ _ q=>(by nomatch h,q),λ_ q=>(by nomatch h,q),λ_ q=>(by nomatch h,q),r⟩
def xE{I:Nat}(i:Inv J w bz Y h)(nr:Y I=none)(k:Heap.ExtBut I h h'):∀b,aD Y h' b↔aD Y h b:=by
 have ne:∀b o,Y b=some o->b≠I:=λb o e q=>by subst q;nomatch nr,e
 have da:∀b d,bj Y h' b d↔bj Y h b d:=by
  intro b d;constructor
  ·rintro⟨c,fs,ox,e,hx,hd⟩;obtain⟨ob,e'⟩:=(i.rep b _ e).here;have:=k b ob (ne _ _ e) e'
   nomatch hx,this
   show⟨c,fs,ox,e,e',hd⟩
  ·rintro⟨c,fs,ox,e,hx,hd⟩;show⟨c,fs,ox,e,k b ox (ne _ _ e) hx,hd⟩
 intro b;unfold aD;simp only[da]
def iy.ext{I:Nat}{p:List Nat}(x:iy bz Y h fa p b cs)(hI:h.get? I=some o)(hd:oS o)(k:Heap.ExtBut I h h')(mu:∀b,aD Y h' b↔aD Y h b):iy bz Y h' fa p b cs:=by
 obtain⟨ar,bo,inner,c',eH,cl,q,pm,sc,cps,e1,e2,e3,e4,e5,e6,e7,e8⟩:=x;obtain⟨oU,hd2,xH,nR⟩:=hd;have n1:fa≠I:=λq=>by subst q;nomatch hI,e1;show xH _ rfl
 obtain⟨cc,oc,vs,t,b1,b2,b3,b4⟩:=e3;cases b1;have n2:c'≠I:=λq=>by subst q;nomatch hI,b2;show nR ⟨vs,_,t,b3,b4⟩
 exact⟨ar,bo,inner,c',eH,cl,q,pm,sc,cps,k _ _ n1 e1,λm=>e2 ((mu _).mp m),⟨c',oc,vs,t,rfl,k _ _ n2 b2,b3,b4⟩,λm=>e4 ((mu _).mp m),e5,e6,e7,λx v hx=>?_⟩;obtain⟨c,rv,d1,⟨o2,d2,rX⟩,d3,d4,d5⟩:=e8 x v hx;have n3:c≠I:=λq=>by subst q;nomatch hI,d2;show hd2 _ rX
 show⟨c,rv,d1,⟨o2,k _ _ n3 d2,rX⟩,d3,λm=>d4 ((mu _).mp m),d5⟩
def i6.ext{f:Act}{I:Nat}(L:i6 bz f m Y h)(hI:h.get? I=some o)(hd:oS o)(k:Heap.ExtBut I h h')(mu:∀b,aD Y h' b↔aD Y h b):i6 bz f m Y h':=by
 obtain⟨oU,hd2,xH,nR⟩:=id hd;have sg:∀L mm,h.Ns L mm->h'.Ns L mm:=λL mm zz=>by obtain⟨o2,es,ep,e,jb,rr⟩:=zz;show⟨o2,es,ep,k _ _ (λq=>by subst q;nomatch hI,e;show oU _ _ jb) e,jb,rr⟩
 have cellK:∀cc vv,h.IsCell cc vv->h'.IsCell cc vv:=λcc vv zz=>by obtain⟨o2,e,jb⟩:=zz;show⟨o2,k _ _ (λq=>by subst q;nomatch hI,e;show hd2 _ jb) e,jb⟩
 have jd:∀x vv,eE h f.env x vv->eE h' f.env x vv:=λx vv H=>by
  rcases H with⟨h1,m2,h2,h3⟩ | ⟨h1,cc,h2,h3⟩
  ·show .inl ⟨h1,m2,sg _ _ h2,h3⟩
  ·show .inr ⟨h1,cc,h2,cellK _ _ h3⟩
 obtain⟨mm,ns⟩:=L.ns;exact⟨⟨mm,sg _ _ ns⟩,λq=>L.i7 ((mu _).mp q),L.qc,λx c e=>?_,λx v hv hx=>?_,λenv he=>?_⟩
 ·obtain⟨⟨v,hv⟩,h2,h3⟩:=L.gb x c e;show⟨⟨v,cellK _ _ hv⟩,λq=>h2 ((mu _).mp q),h3⟩
 ·have:=L.loc x v hv hx;unfold Loc at this ⊢;split at this
  ·obtain⟨fa,a,b⟩:=this;show⟨fa,jd _ _ a,b.ext hI hd k mu⟩
  ·obtain⟨rv,a,b⟩:=this;show⟨rv,jd _ _ a,b⟩
 ·obtain⟨hk,L',hf,hb,hm,m2,n2⟩:=L.cK env he;show⟨hk,L',hf,hb,λq=>hm ((mu _).mp q),m2,sg _ _ n2⟩
def Cn.iter{F:bu}{f:Act}{s0:Shared}(c:Cn J w bz F W A f sc m Y0 s0 Y s n){I:Nat}(hI:s.heap.get? I=some o)(hd:oS o)(nm:¬ aD Y s.heap I)(nr:Y I=none)(nb:bz.get? I=none)(hs:s0.heap.get? I=none)(k:Heap.ExtBut I s.heap h') :
  Cn J w bz F W A f sc m Y0 s0 Y { s with heap:=h',toks:=tk} n/\¬ aD Y h' I:=by
 obtain⟨a,b⟩:=c.at_.Bo (tk:=tk) hI nm hs nb nr hd.2.2.2 k;show⟨⟨c.cx,c.wo,c.rm,c.st,c.lv.ext hI hd k (xE c.at_.2.1 nr k),a⟩,b⟩
def jy(f:Act)(s0:Shared):List Nat:=f.env.locals::((f.env.cells.map (·.1)).filterMap λx=>f.env.cells.lookup x).filter λc=>(s0.heap.get? c).isNone
def MD{f:Act}{s0:Shared}{b:Nat}(h:b∈jy f s0):b=f.env.locals\/((∃x,f.env.cells.lookup x=some b)/\s0.heap.get? b=none):=by
 rcases aO.mp h with e | e
 ·show .inl e
 ·right;obtain⟨h1,h2⟩:=List.mem_filter.mp e;obtain⟨x,_,h3⟩:=List.mem_filterMap.mp h1;show⟨⟨x,h3⟩,by simpa using h2⟩
def XA{l:List (Str×Addr)}{x:Str}{c:Addr}(h:l.lookup x=some c):x∈l.map (·.1):=by
 induction l with
 |nil=>cases h
 |cons p r ih=>
  obtain⟨y,d⟩:=p
  rewrite [lc] at h
  split at h
  ·rename_i e;rw[bq.mp e];show .head _
  ·show .tail _ (ih h)
theorem XB{f:Act}{s0:Shared}{x:Str}{b:Nat}(h:f.env.cells.lookup x=some b)(hs:s0.heap.get? b=none):b∈jy f s0:=
 List.mem_cons_of_mem _ (List.mem_filter.mpr ⟨List.mem_filterMap.mpr ⟨x,XA h,h⟩,by simp[hs]⟩)
def MF{F:bu}{f:Act}{s0:Shared}(c:Cn J w bz F W A f sc m Y0 s0 Y s n)(hl:s0.heap.get? f.env.locals=none) :
  ∃t0:Shared,Cn J w bz F W A f sc m Y t0 Y s n/\(∀b∈jy f s0,t0.heap.get? b=none)/\(∀b o,s.heap.get? b=some o->b∉jy f s0->t0.heap.get? b=some o)/\(∀b,aD Y t0.heap b->aD Y s.heap b)/\∀Y' s',At J w bz nil Y t0 Y' s'->At J w bz nil Y0 s0 Y' s':=by
 have I:=c.at_.2.1;have own:∀b∈jy f s0,s0.heap.get? b=none/\¬ aD Y s.heap b/\Y b=none:=λb hb=>by
  rcases MD hb with rfl | ⟨⟨x,hx⟩,h⟩
  ·obtain⟨mm,oL,es,ep,hL,hd,_⟩:=c.lv.ns;show⟨hl,c.lv.i7,u6 I hL (.inl ⟨es,ep,hd⟩) c.lv.i7⟩
  ·obtain⟨⟨v,oL,hL,hd⟩,h2,_⟩:=c.lv.gb x b hx;show⟨h,h2,u6 I hL (.inr ⟨_,hd⟩) h2⟩
 have keep:∀b o,s.heap.get? b=some o->b∉jy f s0->(hideAll s.heap (jy f s0)).get? b=some o:=λb o e h=>hideAll_get _ e h;have back:∀b o,(hideAll s.heap (jy f s0)).get? b=some o->s.heap.get? b=some o:=λb o e=>of_hideAll _ e;have mu:∀b,aD Y (hideAll s.heap (jy f s0)) b↔aD Y s.heap b:=λb=>by
  have da:∀b d,bj Y (hideAll s.heap (jy f s0)) b d↔bj Y s.heap b d:=by
   intro b d;constructor
   ·rintro⟨c,fs,ox,e,hx,hd⟩;show⟨c,fs,ox,e,back _ _ hx,hd⟩
   ·rintro⟨c,fs,ox,e,hx,hd⟩;show⟨c,fs,ox,e,keep _ _ hx (λq=>by have:=(own b q).2.2;nomatch e,this),hd⟩
  unfold aD;simp only[da]
 obtain⟨⟨hh,tk,he⟩,_,S⟩:=id c.at_;exact⟨{ s with heap:=hideAll s.heap (jy f s0)},⟨c.cx,c.wo,c.rm,c.st,c.lv,⟨s.heap,s.toks,rfl⟩,I,⟨λb o e=>⟨o,back b o e⟩,λb o e nn=>⟨o,back b o e,λq=>nn ((mu b).mpr q),.inr (.inl rfl)⟩,λb o e nn=>nn⟩⟩,λb hb=>hideAll_none _ hb,keep,λb=>(mu b).mp,λY' s' a=>?_⟩
 obtain⟨⟨h2,nE,e2⟩,I2,S2⟩:=a;exact⟨⟨h2,nE,?_⟩,I2,Step.trans (Ym:=Y) (hm:=hideAll s.heap (jy f s0)) ⟨λb o e=>?_,λb o e nn=>?_,S.nw⟩ S2⟩
 ·rw[e2,he]
 ·obtain⟨o',e'⟩:=S.kp b o e;show⟨o',keep b o' e' λq=>by have:=(own b q).1;nomatch e,this⟩
 ·obtain⟨o',e',n',u⟩:=S.st b o e nn;show⟨o',keep b o' e' λq=>(by have:=(own b q).1;nomatch e,this),λq=>n' ((mu b).mp q),u⟩
def rebase{F:bu}{f:Act}{s0:Shared}(c:Cn J w bz F W A f sc m Y0 s0 Y s n)(nw:Nw f sc m s0) :
  ∃t0:Shared,Cn J w bz F W A f sc m Y t0 Y s n/\Nw f sc m t0/\(∀b o,s.heap.get? b=some o->b∉jy f s0->t0.heap.get? b=some o)/\(∀b,aD Y t0.heap b->aD Y s.heap b)/\∀Y' s',At J w bz nil Y t0 Y' s'->At J w bz nil Y0 s0 Y' s':=by
 obtain⟨t0,h1,h2,h3,h4,h5⟩:=MF c nw.loc;show⟨t0,h1,⟨h2 _ (.head _),λx cc e1 e2=>h2 _ (XB e2 (nw.gb x cc e1 e2)),nw.nc,nw.nf,nw.top⟩,h3,h4,h5⟩
theorem MG{F:bu}{f:Act}{s0:Shared}(c:Cn J w bz F W A f sc m Y0 s0 Y s n){I:Nat}(hI:s.heap.get? I=some o)(hd:oS o):I∉jy f s0:=λq=>by
 rcases MD q with e | ⟨⟨y,hy⟩,_⟩
 ·obtain⟨mm,oL,es,ep,hL,di,_⟩:=c.lv.ns
  rewrite [<-e] at hL
  nomatch hI,hL;show hd.1 _ _ di
 ·obtain⟨⟨vv,oL,hL,di⟩,_,_⟩:=c.lv.gb y _ hy
  nomatch hI,hL;show hd.2.1 _ di
theorem Nw.XC{f:Act}{s0:Shared}(nw:Nw f sc m s0)(h:∀x∈t,fW sc x (nm x)=true):sj t f sc m s0:=λx hx=>by
 have h':=h x hx;exact cH h' λ_ h2=>?_;rcases AI h2 with e | ⟨e,_⟩ | ⟨e,_⟩
 ·show .inl ⟨e,nw.loc⟩
 ·show .inr ⟨e,λcc hc=>nw.gb x cc e hc,nw.nc x e⟩
 ·show absurd e (nw.nf x)
def XD:∀{l:List Nat}{es:List Expr},rQ sc l es=true->∀x∈l,fW sc x (nm x)=true:=by
 intro zl;induction zl with
 |nil=>
  intro _ _ x hx;cases hx
 |cons y l ih=>
  intro es h x hx;show dz (P:=λ_=>fW sc x (nm x)=true) h λ_ _ a h=>(aO.mp hx).elim (λe=>by rw[e];show a) (ih h x)
def XE(h:rR sc t tg=true):∀x∈t,fW sc x (nm x)=true:=by
 rcases kK.mp h with h | h
 ·show bx (P:=λ_=>∀x∈t,fW sc x (nm x)=true) h λ_ _ h=>bp h λy h x hx=>by
   rw[List.mem_singleton.mp hx];show fe (P:=λ_=>fW sc y (nm y)=true) h id
 ·show lC (P:=λ_=>∀x∈t,fW sc x (nm x)=true) h λ_ _ _ h=>cH h λ_ h=>XD h
def aF.fh(h:aF vs xs):∀x∈xs,∀p b c,x≠.bA p b c:=by
 induction h with
 |nil=>intro x hx;cases hx
 |cons a _ ih=>
  intro x hx;rcases aO.mp hx with rfl | hx
  ·show a.fh
  ·show ih x hx
def XF{v:V}{K:Env->Prop}(I:Inv J w bz Y h)(r:VR rv v)(hb:fJ t v m K Y):fJ t v m (λm'=>K m'/\(fh m->fh m')) Y:=by
 exact DS hb (λx _ hb=>⟨hb,λh=>h.up r.fh⟩) λa xs _ e _ hb=>⟨hb,λhn=>?_⟩;obtain⟨us,g,q⟩:=lI (I.rep _ _ e);have key:∀(ps:List (Nat×V)) (m:Env),(∀p∈ps,∀a b c,p.2≠.bA a b c)->fh m->fh (ps.foldl (λm p=>up m p.1 p.2) m):=by
  intro ps;induction ps with
  |nil=>intro m _ h;show h
  |cons p ps ih=>intro m hp h;show ih _ (λq hq=>hp q (.tail _ hq)) (h.up (hp p (.head _)))
 show key _ _ (λp hp=>q.fh _ (List.of_mem_zip hp).2) hn
def MH{ex:Expr}{env:PySem.Env}(h:ns 7 ex=true)(x:Value):foldedSetIterable ex env x=pure x:=by
 induction ex using Expr.casesOn<;>first | rfl | show(aZ h).elim
def XG{b:List Sm}(hb:lN b){F:bu}{f:Act}{s0:Shared}{I:Nat}{G:So->Prop}{St:Nat->Obj->Prop}{x:List Stmt}{N:Env->So->Prop}{R:V->So->Prop}
  (it:qi J w bz I xs G St) (ht:rR sc t tg=true) (hx:jU sc b x=true) (hs:s0.heap.get? I=none) (vf:bz.get? I=none) {RR:Result->Shared->Prop}{step:V->Env->(Env->So->Prop)->So->Prop} (oW:∀v m K s,step v m K s->fJ t v m (λm'=>wSs W b m' K R aN s) s) (hN:∀s',GN J w bz F W A f sc Y0 s0 n N s'->RR (.ok .next) s') (hR:∀v s',GE J w bz Y0 s0 R v s'->RR (.ok (.ret v)) s') :
  ∀(r:List V) (i:Nat) (m:Env) (Y:So) (s:Shared) (o:Obj),xs.drop i=r->Cn J w bz F W A f sc m Y0 s0 Y s n->Nw f sc m s0->s.heap.get? I=some o->St i o->¬ aD Y s.heap I->Y I=none ->
   loop step G N r m Y->codeAny (model J w) A (.forLoop tg (.ref I) x [] f.env) RR s:=by
 intro r;induction r with
 |nil=>
  intro i m Y s o hr c nw ho sI nm nr hw;obtain⟨q1,q2,q3⟩:=it.quiet i o sI;have aU:G Y/\N m Y:=hw;exact MC (it.done c.rm.handled c.at_ aU.1 ho sI (by have:=List.drop_eq_nil_iff.mp hr;show iV this) λh' k=>?_);obtain⟨c',_⟩:=c.iter (tk:=s.toks) ho (.fields q3.choose_spec q2) nm nr vf hs (show Heap.ExtBut I s.heap h' from k);show hN _ ⟨m,Y,aU.2,c',nw⟩
 |cons v r ih=>
  intro i m Y s o hr c nw ho sI nm nr hw;obtain⟨q1,q2,q3⟩:=it.quiet i o sI;have aK:=oW _ _ _ _ hw.2;have hG:G Y:=hw.1;clear hw;have hv:xs[i]?=some v:=by
   have:=congrArg (λl=>l[0]?) hr
   simpa using this
  have oX:xs.drop (i+1)=r:=by
   have:=congrArg (λl=>l.drop 1) hr
   simpa [List.drop_drop] using this
  exact MC (it.next c.rm.handled c.at_ hG ho sI hv λrv o' h' tk iB k hW oY=>?_);obtain⟨c1,xd⟩:=c.iter (tk:=tk) ho (.fields q3.choose_spec q2) nm nr vf hs k;obtain⟨p1,p2,us,p3⟩:=it.quiet _ _ oY;exact Mz it hW oY _ _ ?_;obtain⟨t0,c2,vg,k2,Ex,k3⟩:=rebase c1 nw;have MJ:t0.heap.get? I=some o':=k2 I o' hW (MG c1 hW (.fields p3 p2));exact MB c2 (vg.XC (XE ht)) ht iB (XF c1.at_.2.1 iB aK) λm' s2 zz c3=>?_;obtain⟨hK,qo⟩:=zz;have XH:Nw f sc m' t0:=⟨vg.loc,vg.gb,λy hy=>qo (vg.nc y hy),vg.nf,vg.top⟩;exact bB (hb c3 XH hx hK) (λfl s3 q=>?_) λ_ _ q=>q.no;cases fl with
  |next=>
   obtain⟨m4,Y4,hl,c4,XI⟩:=q;have S:=c4.at_.2.2;obtain⟨o4,e4,n4,u4⟩:=S.st I o' MJ λq=>xd (Ex I q);have Ey:o4=o':=by
    rcases u4 with u | u
    ·show u.elim
    ·show u.show λes ep z=>by nomatch p3,z
   rewrite [Ey] at e4
   show ih (i+1) m4 Y4 s3 o' oX ⟨c4.cx,c4.wo,c4.rm,c4.st,c4.lv,k3 _ _ c4.at_⟩ ⟨nw.loc,nw.gb,XI.nc,nw.nf,nw.top⟩ e4 oY n4 (S.nw I o' MJ nr) hl
  |ret v=>
   obtain⟨x4,Y4,h1,h2,h3⟩:=q;show hR v s3 ⟨x4,Y4,h1,h2,k3 _ _ h3⟩
  |brk=>show q.elim
  |cont=>show q.elim
def XJ{e:E}{b:List Sm}(he:xm e)(hb:lN b):SS (.aS t e b):=by
 intros;intro n c nw z ak N R X hw;exact Du ak λtg it x _ pos h=>rN h λh1 h2 h3 h4 h5=>aC h4 ?_;have aU:m8 W e m (wE W e m) (λvs G s=>loop (λv m K s=>fJ t v m (λm'=>wSs W b m' K R aN s) s) G N vs m s) X Y:=hw;exact wpAny_For (he c h2 aU λI xs G St o Y' s' it hI st hl c' hn Ez nr=>?_) (λx=>MH h5 x);have hs:s0.heap.get? I=none:=by
  cases q:s0.heap.get? I with
  |none=>rfl
  |some o=>obtain⟨o',q'⟩:=c.at_.2.2.kp I o q;nomatch hn,q'
 have vf:bz.get? I=none:=by
  cases q:bz.get? I with
  |none=>rfl
  |some o=>have:=c.stays I o q;nomatch hn,this
 show XG hb it h1 h3 hs vf (λ_ _ _ _ q=>q) (λs' q=>q) (λv s' q=>q) xs 0 m Y' s' o rfl c' nw hI st Ez nr hl
def At.adopt{s0:Shared}{D:Nat}(x:At J w bz own Y0 s0 Y s)(hD:s.heap.get? D=some (cR vs n))(r:aF vs xs)(hl:xs.length<=200000)(nm:¬ aD Y s.heap D)(nr:Y D=none)(hs:s0.heap.get? D=none)(nb:bz.get? D=none):At J w bz own Y0 s0 (Tactic.put Y D (.lst xs)) s:=by
 obtain⟨e,I,S⟩:=x;have da:∀b d,bj (Tactic.put Y D (.lst xs)) s.heap b d↔bj Y s.heap b d:=by
  intro b d;constructor
  ·rintro⟨c,fs,ox,e,hx,hd⟩;clear hD hs nb nr;rcases hO e with⟨rfl,e'⟩ | ⟨au,e'⟩
   ·cases e'
   ·show⟨c,fs,ox,e',hx,hd⟩
  ·rintro⟨c,fs,ox,e,hx,hd⟩;have au:b≠D:=λq=>by subst q;nomatch nr,e
   show⟨c,fs,ox,by rw[dO au];show e,hx,hd⟩
 have mu:∀b,aD (Tactic.put Y D (.lst xs)) s.heap b->b=D\/aD Y s.heap b:=by
  intro b m;unfold aD at m ⊢;simp only[da] at m;rcases m with⟨q,e,m⟩ | y
  ·clear da hD hs nb nr;rcases hO e with⟨rfl,_⟩ | ⟨_,e'⟩
   ·show .inl rfl
   ·show .inr (.inl ⟨q,e',m⟩)
  ·show .inr (.inr y)
 exact⟨e,⟨I.stays,λb q e=>?_,λb ob e m=>?_,λb d y=>?_,λb c d y z=>I.inj b c d ((da _ _).mp y) ((da _ _).mp z),I.tab⟩,⟨S.kp,λb o e nn=>?_,λb o e nn=>?_⟩⟩
 ·rcases hO e with⟨rfl,rfl⟩ | ⟨au,e'⟩
  ·show .lst hD r hl
  ·show I.rep b q e'
 ·clear da hD hs nr;rcases mu b m with rfl | m
  ·nomatch nb,e
  ·show I.old b ob e m
 ·have y':=(da _ _).mp y;have au:d≠D:=λq=>nm (q ▸ .inr (.inl ⟨b,y'⟩));rw[dO au];show I.sep b d y'
 ·obtain⟨o',e',n',u⟩:=S.st b o e nn;exact⟨o',e',λm=>?_,u⟩;clear da hD nb nr;rcases mu b m with rfl | m
  ·nomatch hs,e
  ·show n' m
 ·rw[dO (λq=>by clear da hD mu nb nr;subst q;nomatch hs,e)]
  show S.nw b o e nn
def MK{R:Result->Shared->Prop}{elt target iter:Expr}{ifs:List Expr}{scope:Scope}{pos:Pos}{it acc:Value}{env:PySem.Env}
  (h:wpAny (model J w) A (pyNext it) (λr s1=>match r with
   |none=>R (.ok .next) s1
   |some v=>wpAny (model J w) A (letOwnedTupleGo target it v) (λ_ s1=>wpAny (model J w) A (assign target env v) (λ_ s2=>
     wpAny (model J w) A (forIn ifs true λc r=>if r=true then do let ok <-isTrue c env (eval c env);pure (ForInStep.yield ok) else pure (ForInStep.yield r)) (λok s3=>
      if ok=true then wpAny (model J w) A (eval elt env) (λx s4=>
       wpAny (model J w) A (call (.builtin "list.append") [acc,x]) (λ_ s5=>codeAny (model J w) A (.compLoop (.ListComp elt [⟨target,iter,ifs,0⟩] scope pos) 0 it acc env) R s5) (notedBy (model J w) A env λe s'=>R (.error e) s') s4) (notedBy (model J w) A env λe s'=>R (.error e) s') s3
      else codeAny (model J w) A (.compLoop (.ListComp elt [⟨target,iter,ifs,0⟩] scope pos) 0 it acc env) R s3) (notedBy (model J w) A env λe s'=>R (.error e) s') s2) (notedBy (model J w) A env λe s'=>R (.error e) s') s1) (notedBy (model J w) A env λe s'=>R (.error e) s') s1) (notedBy (model J w) A env λe s'=>R (.error e) s') s) :
  codeAny (model J w) A (.compLoop (.ListComp elt [⟨target,iter,ifs,0⟩] scope pos) 0 it acc env) R s:=by
 exact codeAny_of_tree ?_;show wpAny _ A ((compTurn (.ListComp elt [⟨target,iter,ifs,0⟩] scope pos) 0 it acc env).onRaise (λx=>do noteFrame x env;theTreesLotGoes x)) _ _ s;exact wpAny_noted ?_;rw[compTurn_list];exact wb (wpAny_standAt (wb (bB h (λr s1 h1=>?_) λ_ _ h'=>h')));cases r with
 |none=>show aL h1
 |some v=>
  exact wb (bB h1 (λ_ s1 h1=>?_) λ_ _ h'=>h');exact wb (bB h1 (λ_ s2 h2=>wb (bB h2 (λok s3 h3=>?_) λ_ _ h'=>h')) λ_ _ h'=>h');cases ok with
  |false=>show aL ⟨rfl,h3⟩
  |true=>
   show wb (wb (bB h3 (λx s4 h4=>wb (bB h4 (λ_ s5 h5=>aL (aL ⟨rfl,h5⟩)) λ_ _ h'=>h')) λ_ _ h'=>h'))
def XM{E:Value->Shared->Prop}{env:PySem.Env}{Q:Bool->Shared->Prop}(h:Q false s):∀fs:List Expr,wpAny (model J w) A (forIn fs false λc r=>if r=true then do let ok <-isTrue c env (eval c env);pure (ForInStep.yield ok) else pure (ForInStep.yield r)) Q E s:=by
 intro zl;induction zl with
 |nil=>
  show aL h
 |cons zx r ih=>
  rw[List.forIn_cons];rw[if_neg aZ];show wb (aL (ih))
def XO:∀{ifs:List E},(∀e∈ifs,SB e)->∀{F:bu}{W:Wo}{A:Around}{f:Act}{sc:Scope}{m:Env}{Y0 Y:So}{s0 s:Shared}{n:Nat},Cn J w bz F W A f sc m Y0 s0 Y s n->∀{fs:List Expr},bO sc ifs fs=true->∀{K:Bool->So->Prop},uF W ifs m K Y->∀{P:Bool->Shared->Prop}{EE:Value->Shared->Prop},
  (∀b Y' s',K b Y'->Cn J w bz F W A f sc m Y0 s0 Y' s' n->P b s')->wpAny (model J w) A (forIn fs true λc r=>if r=true then do let ok <-isTrue c f.env (eval c f.env);pure (ForInStep.yield ok) else pure (ForInStep.yield r)) P EE s:=by
 intro zl;induction zl with
 |nil=>
  intro _ F W A f sc m Y0 Y s0 s n c fs ak K hw P EE h;show aC ak (aL (h true Y s hw c))
 |cons e r ih=>
  intro hs F W A f sc m Y0 Y s0 s n c fs ak K hw P EE h;have aU:wB W e m (wE W e m) (λt s=>match t with
   |true=>uF W r m K s
   |false=>K false s) aN Y:=hw
  exact dA ak λx xs _ h1 h2=>?_;rw[List.forIn_cons];rw[if_pos rfl];exact wb (wb (bB (SB.then (hs e (.head _)) c h1 aU λb Y' s' hk c'=>?_) (λ_ _ q=>q) λ_ _ q=>q.no));exact aL ?_;cases b with
  |true=>show ih (λe he=>hs e (.tail _ he)) c' h2 hk h
  |false=>show XM (h false Y' s' hk c') xs
def XQ{v:V}{K:Env->Prop}(hb:fJ t v m K Y):fJ t v m (λm'=>K m'/\∀y,y∉t->lk m' y=lk m y) Y:=by
 exact DS hb (λx e hb=>⟨hb,λy hy=>by rw[gi,if_neg (λe'=>hy (by simp[e,e']))]⟩) λa xs _ _ hl hb=>⟨hb,λy hy=>?_⟩;have key:∀(ps:List (Nat×V)) (m:Env),y∉ps.map (·.1)->lk (ps.foldl (λm p=>up m p.1 p.2) m) y=lk m y:=by
  intro ps;induction ps with
  |nil=>intro m _;rfl
  |cons p ps ih=>
   intro m hp;rw[dU,aO,not_or] at hp;rw[List.foldl_cons,ih _ hp.2,gi,if_neg (aaa hp.1)]
 show key _ _ (by rw[List.map_fst_zip ⟨"A.B,B~A;1,-1",hl⟩];show hy)
theorem i6.weak{f:Act}(L:i6 bz f m Y h)(e:∀x v,lk m' x=some v->lk m x=some v):i6 bz f m' Y h:=⟨L.ns,L.i7,L.qc,L.gb,λx v hv hx=>L.loc x v hv (e x v hx),L.cK⟩
def Bv{I:Nat}{G:So->Prop}{St:Nat->Obj->Prop}(it:qi J w bz I xs G St)(h:St i o):oS o:=by
 obtain⟨_,q2,us,q3⟩:=it.quiet i o h;show .fields q3 q2
theorem EA(vs:List Value)(n:Nat):oS (cR vs n):=⟨λ_ _ q=>(by cases q),λ_ q=>(by cases q),λ_ q=>(by cases q),λzz=>by obtain⟨_,_,_,q,_⟩:=zz;show(by cases q)⟩
structure sk(bz:Heap)(Y:So)(s:Shared)(s0:Shared)(D:Nat)(o:Obj):Prop where
 get:s.heap.get? D=some o
 mu:¬ aD Y s.heap D
 non:Y D=none
 bz:bz.get? D=none
 start:s0.heap.get? D=none
def XR{a:E}(ha:SE a)(hi:∀e∈ifs,SB e){F:bu}{f:Act}{s0:Shared}{I D:Nat}{G:So->Prop}{St:Nat->Obj->Prop}{v iter:Expr}{fs:List Expr}{inner:Scope}{pos:Pos}{Q:List V->So->Prop}
  (it:qi J w bz I xs G St) (ht:rR sc t tg=true) (XS:bO sc ifs fs=true) (hv:ay sc a v=true) (jY:∀x∈t,sc.names.lookup (nm x)=some .local) (hL:s0.heap.get? f.env.locals=none) (au:D≠I) {RR:Result->Shared->Prop}{step:V->Env->(Option V->So->Prop)->So->Prop} (oW:∀v m K s,step v m K s->fJ t v m (λm'=>uF W ifs m' (λb s=>match b with | true=>wE W a m' (λx s=>K (some x) s) aN s | false=>K Option.none s) s) s)
  (hN:∀s' Y' vs k acc,aF vs acc->acc.length<=xs.length->Q acc Y'->Cn J w bz F W A f sc (nF m t) Y0 s0 Y' s' n->sk bz Y' s' s0 D (cR vs k)->RR (.ok .next) s') :
  ∀(r:List V) (i:Nat) (acc:List V) (vs:List Value) (k:Nat) (Y:So) (s:Shared) (o:Obj),xs.drop i=r->acc.length<=i->i<=xs.length->Cn J w bz F W A f sc (nF m t) Y0 s0 Y s n->sk bz Y s s0 I o->St i o->sk bz Y s s0 D (cR vs k)->aF vs acc ->
   gather step G m Q r acc Y->codeAny (model J w) A (.compLoop (.ListComp v [⟨tg,iter,fs,0⟩] inner pos) 0 (.ref I) (.ref D) f.env) RR s:=by
 intro r;induction r with
 |nil=>
  intro i acc vs k Y s o hr lO qp c kI sI kD nG hw;have aU:G Y/\Q acc Y:=hw;exact MK (it.done c.rm.handled c.at_ aU.1 kI.get sI (by have:=List.drop_eq_nil_iff.mp hr;show iV this) λh' ke=>?_);obtain⟨c',_⟩:=c.iter (tk:=s.toks) kI.get (Bv it sI) kI.mu kI.non kI.bz kI.start (show Heap.ExtBut I s.heap h' from ke);have mu:=xE c.at_.2.1 kI.non (show Heap.ExtBut I s.heap h' from ke);show hN _ Y vs k acc nG ⟨"A.B,A.C,C.B",lO,qp⟩ aU.2 c' ⟨ke _ _ au kD.get,λq=>kD.mu ((mu _).mp q),kD.non,kD.bz,kD.start⟩
 |cons x r ih=>
  intro i acc vs k Y s o hr lO qp c kI sI kD nG hw;have hb:=oW _ _ _ _ hw.2;have hG:G Y:=hw.1;clear hw;have hx:xs[i]?=some x:=by
   have:=congrArg (λl=>l[0]?) hr
   simpa using this
  have sr:i+1<=xs.length:=(rC.mp hx).1;have oX:xs.drop (i+1)=r:=by
   have:=congrArg (λl=>l.drop 1) hr
   simpa [List.drop_drop] using this
  exact MK (it.next c.rm.handled c.at_ hG kI.get sI hx λrv o' h' tk iB ke hW oY=>?_);obtain⟨c1,xd⟩:=c.iter (tk:=tk) kI.get (Bv it sI) kI.mu kI.non kI.bz kI.start ke;have mu:=xE c.at_.2.1 kI.non ke;have ML:sk bz Y { s with heap:=h',toks:=tk} s0 D (cR vs k):=⟨ke _ _ au kD.get,λq=>kD.mu ((mu _).mp q),kD.non,kD.bz,kD.start⟩
  have MN:sk bz Y { s with heap:=h',toks:=tk} s0 I o':=⟨hW,xd,kI.non,kI.bz,kI.start⟩
  exact Mz it hW oY _ _ ?_;obtain⟨t0,c2,xJ,k2,Ex,k3⟩:=MF c1 hL;have keep:∀{b:Nat}{ob:Obj},sk bz Y { s with heap:=h',toks:=tk} s0 b ob->oS ob->∀{Y':So}{s':Shared},Step nil Y Y' t0.heap s'.heap->sk bz Y' s' s0 b ob:=λ{b ob} kb ib {Y' s'} S=>by
   have h0:=k2 b ob kb.get (MG c1 kb.get ib);obtain⟨o4,e4,n4,u4⟩:=S.st b ob h0 λq=>kb.mu (Ex b q);have Ey:o4=ob:=by
    rcases u4 with u | u
    ·show u.elim
    ·show u.show ib.1
   show⟨Ey ▸ e4,n4,S.nw b ob h0 kb.non,kb.bz,kb.start⟩
  exact MB c2 (λy hy=>.inl ⟨jY y hy,xJ _ (.head _)⟩) ht iB (XQ (Xx hb)) λm0 s2 zz c3=>?_;obtain⟨⟨m',hK,xP⟩,oO⟩:=zz;have XT:Cn J w bz F W A f sc m' Y t0 Y s2 n:=c3.congr xP;have weak:∀{Y' s'},Cn J w bz F W A f sc m' Y t0 Y' s' n->Cn J w bz F W A f sc (nF m t) Y0 s0 Y' s' n:=λ{Y' s'} c=>⟨c.cx,c.wo,c.rm,c.st,c.lv.weak (λy u hy=>by
   by_cases q:y∈t
   ·nomatch Bp,if_pos (by simpa using q),hy
   ·rw[xP,oO y q];show hy),k3 _ _ c.at_⟩
  exact bB (XO hi XT XS hK λb Y4 s4 MP c4=>?_) (λ_ _ q=>q) λ_ _ (q:False)=>q.elim;cases b with
  |false=>
   rw[if_neg aZ];have XU:=keep MN (Bv it oY) c4.at_.2.2;have XW:=keep ML (EA _ _) c4.at_.2.2;show ih (i+1) acc vs k Y4 s4 o' oX ⟨"A.B+1,A.B",lO⟩ sr (weak c4) XU oY XW nG MP
  |true=>
   rw[if_pos rfl];exact bB (ha.then c4 hv MP λMQ y Y5 s5 EB hq c5=>?_) (λ_ _ q=>q) λ_ _ q=>q.no;have xQ:=keep MN (Bv it oY) c5.at_.2.2;have nH:=keep ML (EA _ _) c5.at_.2.2;have hlen:=nG.len;have r9:=it.small;exact wpAny_list_append_plain (l:=D) (items:=vs.toArray) ⟨k,nH.get⟩ (λh6 XX EC=>?_) (by rw[sz,hlen,sizeLine_eq];show⟨"A.16777216,A.B,B+1.C,C.300000",lO,sr,r9⟩);obtain⟨k',e6⟩:=XX;have XY:h6.get? D=some (cR (vs++[MQ]) k'):=by rw[e6];simp
   obtain⟨c6,XZ⟩:=(weak c5).iter (tk:=s5.toks) nH.get (EA _ _) nH.mu nH.non nH.bz nH.start EC.extBut;have X1:=xE c5.at_.2.1 nH.non EC.extBut;exact ih (i+1) (acc++[y]) (vs++[MQ]) k' Y5 _ o' oX (by simp;show⟨"A.B,A.B",lO⟩) sr c6 ⟨(EC.2 I (aaa au)).trans xQ.get,λq=>xQ.mu ((X1 _).mp q),xQ.non,xQ.bz,xQ.start⟩ oY ⟨XY,XZ,nH.non,nH.bz,nH.start⟩ (nG.app (.cons EB .nil)) hq
set_option tactic.hygienic false
def X2:(gR.all λx=>!(Str.ofString x == (".0":Str)))=true:=by decide +kernel
def X3(k:Nat):nm k≠(".0":Str):=by
 rcases iX k 125 with h | h
 ·have hk:k<gR.length:=by rw[uL];show h
  have h1:=bR.mp X2 gR[k] (List.getElem_mem hk);rw[uM h,oq,bL hk]
  simpa using h1
 ·rw[uN h];have z1:(Str.ofString ".0").cps.size=2:=by decide +kernel
  intro e;have:=(congrArg (λx:Str=>x.cps.size) e).trans z1;simp at this;show⟨"_,125.A,A~2;0,1,1",h,this⟩
theorem X4{a:E}{src:E}{ex:Expr}(h:ay sc (.comp a t src ifs) ex=true):∃v tg it fs inner pos,ex=.ListComp v [⟨tg,it,fs,0⟩] inner pos/\DG sc inner t=true/\rR (iZ sc inner) t tg=true/\(ay sc src it && ns 7 it)=true/\bO (iZ sc inner) ifs fs=true/\ay (iZ sc inner) a v=true:=
 rG h λv _ i p h=>bp h λ⟨tg,it,fs,_⟩ h=>rO h λa b c d e f=>⟨v,tg,it,fs,i,p,congrArg (λz=>Expr.ListComp v [⟨tg,it,fs,z⟩] i p) (kG b),a,c,d,e,f⟩
structure ED(sc inner:Scope)(t:List Nat):Prop where
 kind:inner.kind=.function
 i9:∀x∈inner.names,(x.2=.local/\(x.1=(".0":Str)\/∃k∈t,nm k=x.1)/\inner.names.lookup x.1=some .local)\/(x.2=.free/\(sc.names.lookup x.1=some .cell\/sc.names.lookup x.1=some .free))\/x.2=.globalImplicit
 loc:∀k∈t,inner.names.lookup (nm k)=some .local
def X5{inner:Scope}(h:DG sc inner t=true):ED sc inner t:=by
 exact dN h λh1 h2 h3=>⟨dN h1 λh _ _=>kG h,λx hx=>?_,λk hk=>AH (bR.mp h3 k hk)⟩;rcases oz (bR.mp h2 x hx) with⟨e,z⟩ | ⟨_,z⟩ | ⟨e,z⟩ | ⟨e,_⟩
 ·exact cH z λz1 z2=>.inl ⟨dW e,?_,AH z2⟩;rcases kK.mp z1 with q | q
  ·show .inl (bq.mp q)
  ·obtain⟨k,hk,e'⟩:=List.any_eq_true.mp q;show .inr ⟨k,hk,bq.mp e'⟩
 ·cases z
 ·exact cH z λz1 _=>.inr (.inl ⟨dW e,?_⟩);rcases oz z1 with⟨_,h⟩ | h | h | ⟨_,h⟩
  ·cases h
  ·show .inl h.1
  ·show .inr h.1
  ·cases h
 ·show .inr (.inr (dW e))
def X6{f:Act}{inner:Scope}(st:dZ f sc):relabel inner f.env=iZ sc inner:=by
 unfold relabel iZ Env.kindOf;rw[st.se]
def Bw{inner:Scope}{x:Str}:(iZ sc inner).names.lookup x=(inner.names.lookup x).map λk=>if k == .free && sc.kind == .function && sc.names.lookup x == some .cell then .cell else k:=by
 have z:∀l:List (Str×NameKind),(l.map λ(n,k)=>if k == .free && sc.kind == .function && sc.names.lookup n == some .cell then (n,NameKind.cell) else (n,k)).lookup x=(l.lookup x).map λk=>if k == .free && sc.kind == .function && sc.names.lookup x == some .cell then .cell else k:=by
  intro l;induction l with
  |nil=>rfl
  |cons p r ih=>
   obtain⟨n,k⟩:=p;have e:(if (k == .free && sc.kind == .function && sc.names.lookup n == some .cell)=true then (n,NameKind.cell) else (n,k))=(n,if (k == .free && sc.kind == .function && sc.names.lookup n == some .cell)=true then NameKind.cell else k):=by split<;>rfl
   rw[dU];show List.lookup x ((if (k == .free && sc.kind == .function && sc.names.lookup n == some .cell)=true then (n,NameKind.cell) else (n,k))::_)=_;rw[e,lc,lc];cases hx:x == n with
   |true=>
    have e:=bq.mp hx;clear hx;subst e;rfl
   |false=>show ih
 show z inner.names
def X7{inner:Scope}(F:ED sc inner t){x:Nat}{k:NameKind}(h:(iZ sc inner).names.lookup (nm x)=some k)(hk:k=.local\/k=.cell\/k=.free):(k=.local/\x∈t)\/((k=.cell\/k=.free)/\(nm x,NameKind.free)∈inner.names/\(sc.names.lookup (nm x)=some .cell\/sc.names.lookup (nm x)=some .free)):=by
 rw[Bw] at h;cases e:inner.names.lookup (nm x) with
 |none=>nomatch e,h
 |some j=>
  rw[e,Option.map_some] at h;have hm:=mem_lookup e;rcases F.i9 _ hm with⟨e1,e2,_⟩ | ⟨e1,e2⟩ | e1
  ·dsimp only at e1;subst e1;have:k=.local:=by simpa using h.symm
   clear h hk;subst this;rcases e2 with e2 | ⟨y,hy,e2⟩
   ·show absurd e2 (X3 x)
   ·show .inl ⟨rfl,rT e2 ▸ hy⟩
  ·dsimp only at e1;subst e1;exact .inr ⟨?_,hm,e2⟩;have h':=dW h;split at h'
   ·show .inl h'.symm
   ·show .inr h'.symm
  ·dsimp only at e1;subst e1;have:k=.globalImplicit:=by simpa using h.symm
   subst this;rcases hk with hk | hk | hk<;>cases hk
def X8{inner:Scope}(F:ED sc inner t){x:Str}(h:(iZ sc inner).names.lookup x=some .cell\/(iZ sc inner).names.lookup x=some .free):(x,NameKind.free)∈inner.names:=by
 rw[Bw] at h;cases e:inner.names.lookup x with
 |none=>rw[e] at h;rcases h with h | h<;>cases h
 |some j=>
  rw[e,Option.map_some] at h;have hm:=mem_lookup e;rcases F.i9 _ hm with⟨e1,e2,_⟩ | ⟨e1,e2⟩ | e1
  ·dsimp only at e1;clear e e2 hm;subst e1;rcases h with h | h<;>simp at h
  ·dsimp only at e1;clear e e2 h;subst e1;show hm
  ·dsimp only at e1;subst e1;rcases h with h | h<;>simp at h
def X9{a:E}{src:E}(ha:SE a)(hs:xm src)(hi:∀e∈ifs,SB e):SE (.comp a t src ifs):=by
 intros;intro n c ex ak Q X hw;obtain⟨v,tg,it,fs,inner,pos,rfl,h1,h2,h3,h4,h5⟩:=X4 ak;have IF:=X5 h1;have aU:m8 W src m (wE W src m) (λvs G s=>gather (λv m K s=>fJ t v m (λm'=>uF W ifs m' (λb s=>match b with
    |true=>wE W a m' (λx s=>K (some x) s) aN s
    |false=>K Option.none s) s) s) G m (λxs s=>xs.length<big/\new (.lst xs) Q s) vs [] s) X Y:=hw
 have c0:=c.here;obtain⟨cl,eJ,oN,xR⟩:=Lv (scope:=inner) (env:=f.env) λp hp he=>by
  rcases IF.i9 p hp with⟨e,_⟩ | ⟨_,e⟩ | e
  ·nomatch e,he
  ·show c.st.cin _ e
  ·nomatch e,he
 have ja:∀x cc,cl.lookup x=some cc->f.env.cells.lookup x=some cc:=λx cc h=>(xR x cc h).2;exact bB (Q:=GE J w bz Y s Q) (E:=BE J w bz F f.fl Y s X) ?_ (λv s' zz=>by obtain⟨x,Y',q1,q2,q3⟩:=zz;show⟨x,Y',q1,q2,c.at_.trans q3⟩) λ_ _ z=>z.from c.at_;rw[eval_ListComp];exact wpAny_comprehension_free (use:=none) (gs:=[]) rfl (λx=>MH (mW.mp h3).2 x) eJ IF.kind (λx hx hl=>?_) (hs c0 (mW.mp h3).1 aU λI xs G St o Y' s' iter hI sI hg c' hn Ez nr=>?_)
 ·rcases IF.i9 x hx with⟨_,_,e⟩ | ⟨e,_⟩ | e
  ·show e
  ·nomatch e,hl
  ·nomatch e,hl
 exact wpAny_newList (wpAny_newFunctionEnv (s:={ s' with heap:=s'.heap.push { cls:=.type "list",data:=.seq ([]:List Value).toArray}}) (λx hx e=>?_) (by intro y hy;simp at hy) (λh₁ iA nI=>?_) IF.kind)
 ·rcases IF.i9 x hx with⟨q,_⟩ | ⟨q,_⟩ | q<;>rw[q] at e<;>cases e
 dsimp only at iA nI ⊢;generalize EF:s'.heap.push { cls:=.type "list",data:=.seq ([]:List Value).toArray}=H2 at iA nI ⊢
 have hC:H2.objs.size=s'.heap.objs.size+1:=by rw[<-EF,Heap.size_push]
 have Yb:H2.get? s'.heap.objs.size=some (cR [] 0):=EF ▸ ik _ rfl;have Yc:s'.heap.objs.size≠H2.objs.size:=by rw[hC];show fU (Nat.lt_succ_self _)
 have old:∀b o,H2.get? b=some o->h₁.get? b=some o:=λb o e=>nI.extBut b o (fU (dK e)) (cf _ e);have gr:Grows s'.heap h₁:=λb o e=>old b o (EF ▸ cf _ e);have I':=c'.at_.2.1;have cN:Cn J w bz F W A f sc m Y s Y' { s' with heap:=h₁,toks:=s'.toks+([]:List (Str×Value)).length} n:=c'.go ((At.refl I').grow gr)
 have fr:∀b,s'.heap.get? b=none->s.heap.get? b=none/\bz.get? b=none/\Y' b=none/\¬ aD Y' h₁ b:=λb hb=>by
  exact⟨?_,?_,I'.unset hb,uW I' (λb o e=>⟨o,gr b o e,λ_ _ _=>rfl⟩) hb⟩
  ·cases q:s.heap.get? b with
   |none=>rfl
   |some o=>obtain⟨o',q'⟩:=c'.at_.2.2.kp b o q;nomatch hb,q'
  ·cases q:bz.get? b with
   |none=>rfl
   |some o=>have:=c'.stays b o q;nomatch hb,this
 obtain⟨Yd,fd2,Ye,Yg⟩:=fr s'.heap.objs.size (i5 _);obtain⟨MR,MS,fc3,Yh⟩:=fr H2.objs.size (om (by rw[hC];show Nat.le_succ _));have Yi:s'.heap.objs.size≠I:=λq=>absurd (dK hI) (by rw[<-q];show Nat.lt_irrefl _);have vf:bz.get? I=none:=by
  cases q:bz.get? I with
  |none=>rfl
  |some o=>have:=c.stays I o q;nomatch hn,this
 have stI:dZ ⟨compEnvC inner cl H2.objs.size f.env,f.fl⟩ (iZ sc inner):=by
  exact⟨X6 c.st,IF.kind,c.st.gl,c.st.bi,?_,λx y cc hx hy=>c.st.inj x y cc (ja _ _ hx) (ja _ _ hy),λx hx=>?_⟩
  ·rcases c.st.KC with q | q
   ·left;intro x hx;rw[Bw] at hx;cases e:inner.names.lookup x with
    |none=>nomatch e,hx
    |some j=>
     rw[e,Option.map_some] at hx;have fj:=dW hx;split at fj
     ·rename_i hc;simp only[ba,bq] at hc;show q x hc.2
     ·subst fj;rcases IF.i9 _ (mem_lookup e) with⟨e,_⟩ | ⟨e,_⟩ | e<;>cases e
   ·show .inr q
  have hm:=X8 IF hx;rcases IF.i9 _ hm with⟨q,_⟩ | ⟨_,e⟩ | q
  ·cases q
  ·obtain⟨cc,hc⟩:=c.st.cin _ e;show⟨cc,(oN _ hm).trans hc⟩
  ·cases q
 have EG:h₁.Ns H2.objs.size (λ_=>none):=by
  obtain⟨o,es,ep,q1,q2,q3,q4⟩:=iA;show⟨o,es,ep,q1,q2,q3,q4⟩
 have Yj:i6 bz ⟨compEnvC inner cl H2.objs.size f.env,f.fl⟩ (nF m t) Y' h₁:=by
  exact⟨⟨_,EG⟩,Yh,MS,λx cc hx=>cN.lv.gb x cc (ja _ _ hx),λx u hv hx=>?_,cN.lv.cK⟩;have MT:x∉t:=λq=>by nomatch Bp,if_pos (by simpa using q),hx
  rw[Bp,if_neg (by simpa using MT)] at hx;have jv:∃k,(iZ sc inner).names.lookup (nm x)=some k/\(k=.local\/k=.cell\/k=.free):=by
   have e:=stI.se;unfold rW Env.kindOf at hv;rw[e] at hv;rcases AI hv with e | ⟨e,_⟩ | ⟨e,_⟩
   ·show⟨_,e,.inl rfl⟩
   ·show⟨_,e,.inr (.inl rfl)⟩
   ·show⟨_,e,.inr (.inr rfl)⟩
  obtain⟨k,sC,gj⟩:=jv;rcases X7 IF sC gj with⟨_,q⟩ | ⟨q1,q2,q3⟩
  ·show absurd q MT
  ·have Yk:rW f.env (nm x)=true:=by
    unfold rW Env.kindOf;rw[c.st.se];rcases q3 with q | q<;>rw[q]<;>rfl
   have L:=cN.lv.loc x u Yk hx;have xV:∀vv,eE h₁ f.env (nm x) vv->eE h₁ (compEnvC inner cl H2.objs.size f.env) (nm x) vv:=λvv H=>by
    rcases H with⟨e1,_⟩ | ⟨_,cc,e2,e3⟩
    ·unfold Env.kindOf at e1;rw[c.st.se] at e1;rcases q3 with q | q<;>rw[q] at e1<;>cases e1
    ·exact .inr ⟨?_,cc,(oN _ q2).trans e2,e3⟩;have:(compEnvC inner cl H2.objs.size f.env).kindOf (nm x)=some k:=by
      unfold Env.kindOf;show(congrArg (λz:Scope=>z.names.lookup (nm x)) stI.se).trans sC
     rw[this];show q1.imp (congrArg some) (congrArg some)
   unfold Loc at L ⊢;split at L
   ·obtain⟨fa,e1,e2⟩:=L;show⟨fa,xV _ e1,e2⟩
   ·obtain⟨rv,e1,e2⟩:=L;show⟨rv,xV _ e1,e2⟩
 have cI:Cn J w bz F W A ⟨compEnvC inner cl H2.objs.size f.env,f.fl⟩ (iZ sc inner) (nF m t) Y s Y' { s' with heap:=h₁,toks:=s'.toks+([]:List (Str×Value)).length} n:=
  ⟨c.cx,c.wo,⟨c.rm.handled,c.rm.frames,c.rm.depth,c.rm.units⟩,stI,Yj,cN.at_⟩
 have main:codeAny (model J w) A (.compLoop (.ListComp v [⟨tg,it,fs,0⟩] inner pos) 0 (.ref I) (.ref s'.heap.objs.size) (compEnvC inner cl H2.objs.size f.env))
   (compPost (model J w) A (BE J w bz F f.fl Y s X) none (GE J w bz Y s Q) (.ref s'.heap.objs.size) H2.objs.size) { s' with heap:=h₁,toks:=s'.toks+([]:List (Str×Value)).length}:=by
  exact XR (f:=⟨compEnvC inner cl H2.objs.size f.env,f.fl⟩) ha hi iter h2 h4 h5 (λx hx=>?_) MR Yi (λ_ _ _ _ q=>q) (λs2 Y2 vs k acc nG hlen hq c2 kD=>?_) xs 0 [] [] 0 Y' _ o rfl (ip _) (Nat.zero_le _) cI ⟨gr _ _ hI,λq=>Ez ((aD.grow I' gr).mp q),nr,vf,hn⟩ sI ⟨old _ _ Yb,Yg,Ye,fd2,Yd⟩ .nil hg
  ·rw[Bw,IF.loc x hx];rfl
  ·obtain⟨mm,xP⟩:=c2.lv.ns;exact⟨mm,xP,λYl sb=>?_⟩;obtain⟨oL,es,ep,hL,hd,_⟩:=id xP;have i7:=c2.lv.i7;have xX:=u6 c2.at_.2.1 hL (.inl ⟨es,ep,hd⟩) i7;obtain⟨a2,_⟩:=c2.at_.Bo (tk:=s2.toks) hL i7 MR MS xX (λzz=>by obtain⟨us,q,t,e1,_⟩:=zz;nomatch hd,e1) sb.extBut
   have mu:=xE c2.at_.2.1 xX sb.extBut;have hb:acc.length<100000:=hq.1;have a3:=At.adopt (s:={ s2 with heap:=Yl,toks:=s2.toks}) a2 ((sb.2 _ Yc).trans kD.get) nG ⟨"A.200000,A>100000",hq.1⟩ (λq=>kD.mu ((mu _).mp q)) kD.non kD.start kD.bz
   show⟨.ref _,_,.ref _,hq.2 _ kD.non,a3⟩
 show codeAny_compStart_list main (iter.self (gr _ _ hI) sI main)
def MV{ns:List Str}{vals:List Value}(h:vals.length=ns.length)(n)(hn:n∈ns):((ns.zip vals).lookup n).isSome=true:=by
 induction ns generalizing vals with
 |nil=>show v9 hn
 |cons m ns ih=>
  cases vals with
  |nil=>cases h
  |cons v vals=>
   rw[kH,lc];cases q:n == m with
   |true=>rfl
   |false=>
    rcases aO.mp hn with e | e
    ·rw[e] at q;simp at q
    ·show ih (Nat.succ.inj h) e
def MX{ns:List Str}{vals:List Value}(h:vals.length=ns.length)(nd:ns.Nodup)(l:List (Str×Value))(hl:∀n∈ns,l.lookup n=(ns.zip vals).lookup n):ns.filterMap (λn=>(l.lookup n).map (n,·))=ns.zip vals:=by
 induction ns generalizing vals with
 |nil=>cases vals with
  |nil=>rfl
  |cons _ _=>cases h
 |cons m ns ih=>cases vals with
  |nil=>cases h
  |cons v vals=>
   rw[bS] at nd;rw[List.filterMap_cons,hl m (.head _),kH,lc];simp only[beq_self_eq_true,Option.map_some];rw[ih (Nat.succ.inj h) nd.2 λn hn=>?_];rw[hl n (.tail _ hn),kH,lc];have:(n == m)=false:=by
    rw[mX];intro e;show nd.1 (e ▸ hn)
   rw[this]
 def xY (x:Str×Value) (s:List (Str×Value)):Sem (ForInStep (List (Str×Value))):=if (List.lookup x.fst s).isNone=true then pure (.yield (s++[(x.fst,x.snd)])) else pure (.yield s)
 def bk (E1 E2:Option (Array Value)->Sem (List (Str×Value))) (ns:List Str) (vals:List Value) (o:Option (Array Value)):Sem (List (Str×Value)):=
  if (decide (vals.length > ns.length) && (none:Option Arg).isNone)=true then E1 o
  else if (!((ns.take (ns.length-((o.getD #[]).toList.drop ((o.getD #[]).toList.length-ns.length)).length)).filter λn=>((ns.zip vals).lookup n).isNone).isEmpty)=true then E2 o
  else forIn ((ns.drop (ns.length-((o.getD #[]).toList.drop ((o.getD #[]).toList.length-ns.length)).length)).zip ((o.getD #[]).toList.drop ((o.getD #[]).toList.length-ns.length))) (ns.zip vals) xY >>= λs=>pure ((ns++[]).filterMap λn=>(s.lookup n).map (n,·))
def MY{fd:FuncData}{vals:List Value}(h1:fd.params.posonlyargs=[])(h3:fd.params.vararg=none)(h4:fd.params.kwonlyargs=[])(h5:fd.params.kwarg=none):∃E1 E2,bindArgs fd ⟨vals,[]⟩=seqItems? fd.defaults >>= bk E1 E2 (fd.params.args.map (·.arg)) vals:=by
 obtain⟨fn,qn,⟨po,ar,va,ko,kd,kw,df⟩,body,sc,gl,bA,dflt,kwd,doc,Yn,ann,code,ct,bt⟩:=fd;dsimp only at h1 h3 h4 h5;subst h1 h3 h4 h5;show⟨_,_,rfl⟩
def MZ{E1 E2:Option (Array Value)->Sem (List (Str×Value))}{ns:List Str}{vals:List Value}{o:Option (Array Value)}{dd:List Value}(hd:(o.getD #[]).toList=dd)(hl:¬ vals.length > ns.length)(xi:dd.length<=ns.length)(hm:∀n∈ns.take (ns.length-dd.length),((ns.zip vals).lookup n).isNone=false):bk E1 E2 ns vals o=forIn ((ns.drop (ns.length-dd.length)).zip dd) (ns.zip vals) xY >>= λs=>pure ((ns++[]).filterMap λn=>(s.lookup n).map (n,·)):=by
 subst hd;unfold bk;rw[if_neg (λh=>hl (kG (ba _ _ ▸ h).1)),Nat.sub_eq_zero_of_le xi,List.drop_zero,List.filter_eq_nil_iff.mpr λn hn=>by rw[hm n hn];show aZ];rfl
def M3{ns:List Str}{vals:List Value}{n:Str}(h:((ns.zip vals).lookup n).isSome=true):((ns.zip vals).lookup n).isNone=false:=by
 cases q:(ns.zip vals).lookup n with
 |none=>nomatch q,h
 |some _=>rfl
def bind_none{fd:FuncData}{ns:List Str}{vals:List Value}(h1:fd.params.posonlyargs=[])(h2:fd.params.args.map (·.arg)=ns)(h3:fd.params.vararg=none)(h4:fd.params.kwonlyargs=[])(h5:fd.params.kwarg=none)(hd:fd.defaults=.none)(hl:vals.length=ns.length)(nd:ns.Nodup):bindArgs fd ⟨vals,[]⟩=pure (ns.zip vals):=by
 obtain⟨E1,E2,e⟩:=MY (vals:=vals) h1 h3 h4 h5;rw[e,h2,hd];show bk E1 E2 ns vals none=_;rw[MZ (dd:=[]) rfl (by rw[hl];show Nat.lt_irrefl _) (Nat.zero_le _) λn hn=>M3 (MV hl n (List.mem_of_mem_take hn)),List.zip_nil_right,de];show congrArg (Pure.pure (f:=Sem)) (MX hl nd (ns.zip vals) λn hn=>rfl)
def Yo{ns:List Str}{vals:List Value}{x:Str}{d:Value}(h:vals.length=ns.length)(hx:x∉ns):((ns++[x]).zip vals).lookup x=none/\((ns++[x]).zip vals)=ns.zip vals/\(ns++[x]).zip (vals++[d])=ns.zip vals++[(x,d)]:=by
 induction ns generalizing vals with
 |nil=>cases vals with
  |nil=>show⟨rfl,rfl,rfl⟩
  |cons _ _=>cases h
 |cons m ns ih=>cases vals with
  |nil=>cases h
  |cons v vals=>
   obtain⟨a,b,c⟩:=ih (Nat.succ.inj h) λq=>hx (.tail _ q);have:(x == m)=false:=by rw[mX];intro e;show hx (e ▸ .head _)
   exact⟨?_,?_,?_⟩
   ·rw[List.cons_append,kH,lc,this];show a
   ·rw[List.cons_append,kH,b,kH]
   ·rw[List.cons_append,List.cons_append,kH,c,kH,List.cons_append]
def Yq{l:List (Str×Value)}{x n:Str}{d:Value}:(l++[(x,d)]).lookup n=match l.lookup n with | some v=>some v | none=>if n == x then some d else none:=by
 induction l with
 |nil=>rw[List.nil_append,lc];cases q:n == x<;>rfl
 |cons p r ih=>
  obtain⟨y,v⟩:=p;rw[List.cons_append,lc,lc];cases n == y<;>simp[ih]
def Yr{fd:FuncData}{ns:List Str}{x:Str}{vals:List Value}{d:Value}{T:Nat}(h1:fd.params.posonlyargs=[])(h2:fd.params.args.map (·.arg)=ns++[x])(h3:fd.params.vararg=none)(h4:fd.params.kwonlyargs=[])(h5:fd.params.kwarg=none)(hd:fd.defaults=.ref T)(ho:s.heap.get? T=some o)(hs:o.data=.seq #[d] n)(hl:vals.length=ns.length)(nd:(ns++[x]).Nodup):BindsTo s fd ⟨vals,[]⟩ ((ns++[x]).zip (vals++[d])):=by
 obtain⟨E1,E2,e⟩:=MY (vals:=vals) h1 h3 h4 h5;have hx:x∉ns:=λq=>by
  rw[dg] at nd;show nd.2.2 x q x (.head _) rfl
 obtain⟨z1,z2,z3⟩:=Yo (d:=d) hl hx;have hn:(ns++[x]).length-1=ns.length:=by rw[iK];rfl
 exact BindsTo.of_defaults hd ho hs (h2 ▸ e) ?_;rw[MZ (dd:=[d]) rfl (by rw[iK,hl];show Nat.not_lt.mpr (Nat.le_succ _)) (by rw[iK];show Nat.le_add_left _ _) λn hV=>by
  rw[z2];show M3 (MV hl n (by rw[show(ns++[x]).length - [d].length=ns.length from hn,List.take_left] at hV;show hV))]
 rw[show(ns++[x]).length - [d].length=ns.length from hn,List.drop_left,de];show(forIn [(x,d)] ((ns++[x]).zip vals) xY >>= _)=_;rw[List.forIn_cons,show xY (x,d) ((ns++[x]).zip vals)=pure (.yield ((ns++[x]).zip vals++[(x,d)])) by unfold xY;rw[if_pos (by rw[z1];rfl)]];show congrArg (Pure.pure (f:=Sem)) (MX (ns:=ns++[x]) (vals:=vals++[d]) (by rw[iK,iK,hl];rfl) nd _ λn hn=>by rw[z3,z2])
def xZ(xs:List V):Bool:=xs.all λx=>match x with
 | .bA _ _ _=>false
 |_=>true
def Ys(W:Wo)(i:Nat)(fd:Fd)(vs:List V)(Q:V->So->Prop)(X:Nat->So->Prop)(s:So):Prop:=mZ (Nat.beq (vs.length+fd.gA.length) fd.ai.length) (mZ (xZ vs || Nat.beq i 26) (wSs W fd.body (ups fd.ai (vs++fd.gA) []) (λ_ s=>Q .none s) Q X s))
def EH(W:Wo)(ai:List Nat)(b:E)(aq:Env)(vs:List V)(Q:V->So->Prop)(s:So):Prop:=mZ (Nat.beq vs.length ai.length) (mZ (xZ vs && Nat.beq ai.length 1) (wE W b (ups ai vs aq) Q aN s))
def Bx(c k:Nat):Option Nat:=(mT.find? λp=>Nat.beq p.1 c && Nat.beq p.2.1 k).map (·.2.2)
def By(c:Nat):Option Nat:=(kT.find? λp=>Nat.beq p.1 c).map (·.2)
def Wn:Nat->Wo
 |0=>⟨nA,Bx,By,λ_ _ _ _ _=>False,λ_ _ _ _ _ _=>False⟩
 |n+1=>⟨nA,Bx,By,λi vs Q X s=>jr fns[i]? λfd=>Ys (Wn n) i fd vs Q X s,EH (Wn n)⟩
def M4{c k f:Nat}(h:Bx c k=some f):(c,k,f)∈mT:=by
 unfold Bx at h;obtain⟨p,hp,rfl⟩:=wh.mp h;have h1:=List.find?_some hp
 rewrite [ba] at h1
 have e1:=nq h1.1;have e2:=nq h1.2;subst e1;clear h h1;subst e2;show List.mem_of_find?_eq_some hp
def M5{c f:Nat}(h:By c=some f):(c,f)∈kT:=by
 unfold By at h;obtain⟨p,hp,rfl⟩:=wh.mp h;have h1:=List.find?_some hp;have e1:=nq h1;subst e1;show List.mem_of_find?_eq_some hp
def EI{l:List FR}{k:List Fd}(h:AQ l k=true)(e:k[i]?=some fd):∃r,l[i]?=some r/\AP r fd=true:=by
 induction l generalizing k i with
 |nil=>cases k with
  |nil=>cases e
  |cons _ _=>cases h
 |cons r l ih=>cases k with
  |nil=>cases h
  |cons f k=>
   have h':(AP r f && AQ l k)=true:=h
   rewrite [ba] at h'
   cases i with
   |zero=>simp at e;subst e;show⟨r,rfl,h'.1⟩
   |succ i=>show ih h'.2 (by simpa using e)
theorem qt{f:Nat->Obj}:∀{l:List Nat}{a:Nat},a∈l->(l.map λa=>(a,f a)).lookup a=some (f a)
 |b::r,a,h=>by
  rw[dU,lc];cases q:a == b with
  |true=>rw[bq.mp q]
  |false=>
   rcases aO.mp h with e | e
   ·rewrite [e] at q;simp at q
   ·show qt e
def EJ(cx:Cx w bz){r:FR}(h:r∈fT):bz.get? r.a=some (Fn r.nm r.ql r.st r.dV r.pm (.ref r.cd)):=by
 have h1:=bR.mp Kx r h
 rewrite [ba] at h1
 have h2:r.a∈kA:=List.contains_iff_mem.mp h1.1;have h3:=cx.k _ _ (qt (f:=dY w.params) h2);rw[h3];show congrArg some (List.map_inj_left.mp (Tf w.params) _ h)
def M6:Value->Nat
 | .none=>0
 | .ref a=>a
 |_=>1
def x9(n:Nat):List V×Value:=bif Nat.beq n 0 then ([],.none) else bif Nat.beq n 687 then ([.int 8],.ref 687) else ([.bool false],.ref 847)
def Yt(n:Nat):x9 n=([],.none)\/x9 n=([.int 8],.ref 687)\/x9 n=([.bool false],.ref 847):=by
 unfold x9;cases n.beq 0 with
 |true=>show .inl rfl
 |false=>cases n.beq 687 with
  |true=>show .inr (.inl rfl)
  |false=>show .inr (.inr rfl)
def Yu:((fT.zip fns).map λp=>(p.2.gA,p.1.dV))=(fT.zip fns).map λp=>x9 (M6 p.1.dV):=by kernel_rfl
def Yv(P:Params):dY P 687=T [It 8 1128]:=by kernel_rfl
def Yw(P:Params):dY P 847=T [B false]:=by kernel_rfl
def M7:(kA.contains 687 && kA.contains 847)=true:=by decide +kernel
def M8:(fns.all λf=>decide f.ai.Nodup)=true:=by decide +kernel
def M9{l:List Nat}{as:List Arg}(h:uI l as=true):as.map (·.arg)=l.map nm:=by
 induction l generalizing as with
 |nil=>cases as with
  |nil=>rfl
  |cons _ _=>cases h
 |cons x r ih=>cases as with
  |nil=>cases h
  |cons a l=>
   obtain⟨n,an,p⟩:=a;cases an with
   |some _=>cases h
   |none=>
    have h':(n == nm x && uI r l)=true:=h
    rewrite [ba] at h'
    rw[dU,dU,ih h'.2,bq.mp h'.1]
def Bz{l:List Nat}(h:l.Nodup):(l.map nm).Nodup:=by
 induction l with
 |nil=>show List.nodup_nil
 |cons x r ih=>
  rewrite [bS] at h
  rw[dU,bS];exact⟨λq=>?_,ih h.2⟩;obtain⟨y,hy,e⟩:=bJ.mp q;show h.1 (rT e ▸ hy)
structure Nb(r:FR)(fd:Fd):Prop where
 p1:(kF r.st).posonlyargs=[]
 p2:(kF r.st).args.map (·.arg)=fd.ai.map nm
 p3:(kF r.st).vararg=none
 p4:(kF r.st).kwonlyargs=[]
 p5:(kF r.st).kwarg=none
 kind:(cg r.st).kind=.function
 gen:(cg r.st).isGenerator=false
 Nc:(cg r.st).isCoroutine=false
 kY:∀k∈fd.ai,(cg r.st).names.lookup (nm k)=some .local\/(cg r.st).names.lookup (nm k)=some .cell
 i9:∀x k,(cg r.st).names.lookup x=some k->k=.local\/k=.cell\/k=.globalImplicit
 body:jU (cg r.st) fd.body (mU r.st)=true
theorem Nf(h:uJ ar=true):ar.posonlyargs=[]/\ar.vararg=none/\ar.kwonlyargs=[]/\ar.kwarg=none:=
 rN h λh1 h2 h3 _ h5=>⟨List.isEmpty_iff.mp h1,Option.isNone_iff_eq_none.mp h2,List.isEmpty_iff.mp h3,Option.isNone_iff_eq_none.mp h5⟩
theorem Ng(h:wH sc=true):sc.kind=.function/\sc.isGenerator=false/\sc.isCoroutine=false:=
 dN h λa b c=>⟨kG a,by simpa using b,by simpa using c⟩
def Nh{r:FR}(h:AP r fd=true):Nb r fd:=by
 exact rM h λh h5 h6 h7=>rM h λh1 h2 _ h4=>?_;obtain⟨a1,a2,a3,a4⟩:=Nf h1;obtain⟨b1,b2,b3⟩:=Ng h4;exact⟨a1,M9 h2,a2,a3,a4,b1,b2,b3,λk hk=>?_,λx k hx=>?_,h7⟩
 ·rcases AI (bR.mp h5 k hk) with e | ⟨e,_⟩ | ⟨_,h⟩
  ·show .inl e
  ·show .inr e
  ·cases h
 ·rcases oz (bR.mp h6 _ (mem_lookup hx)) with⟨e,_⟩ | ⟨e,_⟩ | ⟨_,h⟩ | ⟨e,_⟩
  ·show .inl (dW e)
  ·show .inr (.inl (dW e))
  ·cases h
  ·show .inr (.inr (dW e))
def fdOf(r:FR):FuncData:={ name:=Str.ofString r.nm,qualname:=Str.ofString r.ql,params:=kF r.st,body:=.stmts (mU r.st),scope:=cg r.st,globals:=3,closure:=[],defaults:=r.dV,kwdefaults:=.none,pyModule:=r.pm,code:=.ref r.cd}
def Ni(cx:Cx w bz){r:FR}(hr:fT[i]?=some r)(hf:fns[i]?=some fd)(F:Nb r fd)(k:bz.StaysIn s.heap)(hl:vs.length+fd.gA.length=fd.ai.length):∃ds,aF ds fd.gA/\BindsTo s (fdOf r) ⟨vs,[]⟩ ((fd.ai.map nm).zip (vs++ds)):=by
 have nd:(fd.ai.map nm).Nodup:=Bz (by simpa using bR.mp M8 fd (iW hf));have hz:(r,fd)∈fT.zip fns:=by
  exact iW (i:=i) ?_;rw[List.getElem?_zip_eq_some];show⟨hr,hf⟩
 have hd:=List.map_inj_left.mp Yu _ hz;have dflt:∀(T':Nat) (d:Value) (o:Obj),r.dV=.ref T'->s.heap.get? T'=some o->o.data=.seq #[d] 0->fd.gA.length=1->BindsTo s (fdOf r) ⟨vs,[]⟩ ((fd.ai.map nm).zip (vs++[d])):=λT' d o h1 h2 h3 h4=>by
  have au:fd.ai≠[]:=λq=>by rewrite [q,h4] at hl;simp at hl
  obtain⟨ns,x,e⟩:∃ns x,fd.ai.map nm=ns++[x]:=by
   exact⟨(fd.ai.map nm).dropLast,(fd.ai.map nm).getLast (by simpa using au),(List.dropLast_concat_getLast _).symm⟩
  rw[e] at nd ⊢;exact Yr (fd:=fdOf r) F.p1 (F.p2.trans e) F.p3 F.p4 F.p5 h1 h2 h3 ?_ nd;have:=congrArg List.length e;simp at this;show⟨"A~B,A+C~D,C~1,D~B+1;1,1,-1,1;1,-1,1,-1",hl,h4,this⟩
 have EK:s.heap.get? 687=some (T [It 8 1128]):=by
  have:=M7
  rewrite [ba] at this
  have h3:=cx.k _ _ (qt (f:=dY w.params) (List.contains_iff_mem.mp this.1))
  rewrite [Yv] at h3
  show k _ _ h3
 have EL:s.heap.get? 847=some (T [B false]):=by
  have:=M7
  rewrite [ba] at this
  have h3:=cx.k _ _ (qt (f:=dY w.params) (List.contains_iff_mem.mp this.2))
  rewrite [Yw] at h3
  show k _ _ h3
 rcases Yt (M6 r.dV) with e | e | e
 ·obtain⟨e,z⟩:=Prod.mk.inj (hd.trans e);have e:fd.gA=[]:=e;rw[e] at hl ⊢;exact⟨[],.nil,.of_eq ?_⟩;rw[de];show bind_none (fd:=fdOf r) F.p1 F.p2 F.p3 F.p4 F.p5 z (by rw[dT];show hl) nd
 ·obtain⟨e,z⟩:=Prod.mk.inj (hd.trans e);show⟨[It 8 1128],by rw[show fd.gA=_ from e];show .cons (.int _ _) .nil,dflt 687 _ _ z EK rfl (congrArg List.length e)⟩
 ·obtain⟨e,z⟩:=Prod.mk.inj (hd.trans e);show⟨[B false],by rw[show fd.gA=_ from e];show .cons (.bool _) .nil,dflt 847 _ _ z EL rfl (congrArg List.length e)⟩
set_option tactic.hygienic true
structure Nj(J:Program)(w:World)(bz:Heap)(F:bu):Prop where
 leave:∀{A:Around}{env:PySem.Env}{fl:List PySem.Env}{k:Nat}{e:Value}{Y:So}{s1 s:Shared}{E:Value->Shared->Prop}{Q:Unit->Shared->Prop},A.frames=some (env::fl)->F (env::fl) k e Y s1 s->(∀s',F fl k e Y s1 s'->Q () s')->wpAny (model J w) A (leaving env e) Q E s
def Yx{kd:Str->Option NameKind}{y:Str}(hy:kd y=some .local):∀{bs:List (Str×Value)}{m:Str->Option Value},(bs.map (·.1)).Nodup->bindL kd bs m y=match bs.lookup y with | some v=>some v | none=>m y:=by
 intro zl;induction zl with
 |nil=>
  intro m _;show rfl
 |cons zx r ih=>
  obtain⟨n,v⟩:=zx;intro m nd
  rewrite [dU,bS] at nd
  dsimp only[bindL];rw[ih nd.2,lc];cases q:y == n with
  |true=>
   have e:=bq.mp q;subst e;have:r.lookup y=none:=by
    cases e:r.lookup y with
    |none=>rfl
    |some z=>
     exfalso;apply nd.1;clear nd q ih;induction r with
     |nil=>cases e
     |cons p r ih=>
      obtain⟨a,b⟩:=p
      rewrite [lc] at e
      split at e
      ·rename_i q;rw[bq.mp q];show .head _
      ·show .tail _ (ih e)
   rw[this,if_pos hy];simp
  |false=>
   have au:y≠n:=by simpa using q
   dsimp only;cases r.lookup y with
   |some z=>rfl
   |none=>dsimp only;split<;>simp[au]
def Yz{kd:Str->Option NameKind}{y:Str}(hy:kd y≠some .local):∀{bs:List (Str×Value)}{m:Str->Option Value},(bs.map (·.1)).Nodup->bindC kd bs m y=match bs.lookup y with | some v=>some v | none=>m y:=by
 intro zl;induction zl with
 |nil=>
  intro m _;show rfl
 |cons zx r ih=>
  obtain⟨n,v⟩:=zx;intro m nd
  rewrite [dU,bS] at nd
  dsimp only[bindC];rw[ih nd.2,lc];cases q:y == n with
  |true=>
   have e:=bq.mp q;subst e;have:r.lookup y=none:=by
    cases e:r.lookup y with
    |none=>rfl
    |some z=>
     exfalso;apply nd.1;clear nd q ih;induction r with
     |nil=>cases e
     |cons p r ih=>
      obtain⟨a,b⟩:=p
      rewrite [lc] at e
      split at e
      ·rename_i q;rw[bq.mp q];show .head _
      ·show .tail _ (ih e)
   rw[this,if_neg hy];simp
  |false=>
   have au:y≠n:=by simpa using q
   dsimp only;cases r.lookup y with
   |some z=>rfl
   |none=>dsimp only;split<;>simp[au]
def Nk:∀{ai:List Nat}{vs:List Value}{xs:List V}{m:Env},ai.Nodup->gH bz Y h vs xs->ai.length=xs.length->∀{x:Nat}{v:V},lk (ups ai xs m) x=some v->(x∈ai/\∃rv,((ai.map nm).zip vs).lookup (nm x)=some rv/\VC bz Y h rv v)\/(x∉ai/\lk m x=some v):=by
 intro zl;induction zl with
 |nil=>
  intro vs xs m _ hv hl x v e;cases xs with
  |nil=>show .inr ⟨by simp,e⟩
  |cons _ _=>cases hl
 |cons y r ih=>
  intro vs xs m nd hv hl x v e;cases hv with
  |nil=>cases hl
  |cons a b=>
   rename_i v0 x0 vs xs
   rewrite [bS] at nd
   have e':lk (ups r xs (up m y x0)) x=some v:=e;rcases ih nd.2 b (Nat.succ.inj hl) e' with⟨h1,rv,h2,h3⟩ | ⟨h1,h2⟩
   ·left;have au:x≠y:=λq=>nd.1 (q ▸ h1);exact⟨.tail _ h1,rv,?_,h3⟩;rw[dU,kH,lc];have:(nm x == nm y)=false:=by rw[mX];show λq=>au (rT q)
    rw[this];show h2
   ·rewrite [gi] at h2
    split at h2
    ·rename_i q;subst q;cases h2;left;exact⟨.head _,v0,?_,a⟩;rw[dU,kH,lc];simp
    ·rename_i q;right;show⟨λz=>(aO.mp z).elim (λe=>q e.symm) h1,h2⟩
def gH.len(r:gH bz Y h vs xs):vs.length=xs.length:=by
 induction r with
 |nil=>rfl
 |cons _ _ ih=>simp[ih]
def gH.app(r:gH bz Y h vs xs)(q:gH bz Y h ws ys):gH bz Y h (vs++ws) (xs++ys):=by
 induction r with
 |nil=>show q
 |cons a _ ih=>show .cons a ih
def VC.has{Y':So}{env:PySem.Env}{x:Nat}{v:V}(S:Step nil Y Y' h h')(r:VC bz Y h rv v)(H:eE h' env (nm x) rv):Loc bz Y' h' env x v:=by
 cases v with
 |bA p b cs=>obtain⟨fa,rfl,hc⟩:=r;show⟨fa,H,hc.step S⟩
 |_=>show⟨rv,H,r⟩
theorem Nm(h:xZ xs=true):∀v∈xs,∀p b c,v≠.bA p b c:=λv hv p b c e=>by
 have:=bR.mp h v hv
 nomatch e,this
def YB{ai:List Nat}{x:Nat}{v:V}(h:lk (ups ai xs m) x=some v):v∈xs\/lk m x=some v:=by
 induction ai generalizing xs m with
 |nil=>show .inr (by cases xs<;>show h)
 |cons y r ih=>cases xs with
  |nil=>show .inr h
  |cons u xs=>
   rcases ih (show lk (ups r xs (up m y u)) x=some v from h) with q | q
   ·show .inl (.tail _ q)
   ·rewrite [gi] at q
    split at q
    ·cases q;show .inl (.head _)
    ·show .inr q
def YC:(match fT[26]? with | some r=>(cg r.st).names.all λx=>(match x.2 with | .cell=>false | _=>true) | none=>true)=true:=by kernel_rfl
theorem YD{r:FR}(h:fT[26]?=some r){x:Str}:(cg r.st).names.lookup x≠some .cell:=λq=>by
 have:=YC
 rewrite [h] at this
 have z:=bR.mp this _ (mem_lookup q);cases z
def YF:(fns.all λf=>xZ f.gA)=true:=by decide +kernel
theorem EP:recursionLimit=1000:=rfl
def YG{s1:Shared}{m cm:Str->Option Value}{cs:List (Str×Addr)}(x:InCallC s L m cs cm s1):∃h tk,s1={ s with heap:=h,toks:=tk}/\Grows s.heap h:=by
 obtain⟨h,tk,rfl⟩:=x.toInCall.same;show⟨h,tk,rfl,x.toInCall.keep⟩
def YH{F:bu}(cx:Cx w bz)(fo:Nj J w bz F)(hS:∀l,lN l){k:Nat}(wo:A1 J w bz F (Wn k) n)(i:Nat)(r:FR)(hr:fT[i]?=some r)(A:Around)(f:Act)(vs:List Value)(xs:List V)(Q:V->So->Prop)(X:Nat->So->Prop)(Y0:So)(s0:Shared)(Y:So)(s:Shared)(rm:kW A f (n+2))(cK:lH bz Y s.heap f.fl)
  (at_:At J w bz nil Y0 s0 Y s) (hv:gH bz Y s.heap vs xs) (hw:(Wn (k+1)).call i xs Q X Y):codeAny (model J w) A (.call (.ref r.a) ⟨vs,[]⟩) (λres s'=>match res with
   | .ok (.ret v)=>GE J w bz Y0 s0 Q v s'
   | .ok _=>False
   | .error e=>BE J w bz F f.fl Y0 s0 X e s') s:=by
 obtain⟨fd,hf,hw⟩:=nz hw;obtain⟨q1,hw⟩:=p8 hw;obtain⟨q2,hw⟩:=p8 hw;obtain⟨r',oX,ak⟩:=EI DP hf;obtain rfl:=dW (hr.symm.trans oX);have FF:=Nh ak;clear oX ak;have hl:vs.length+fd.gA.length=fd.ai.length:=by rw[hv.len];show nq q1
 have bU:=Bc hr;have stays:=at_.2.1.stays;obtain⟨ds,si,iC⟩:=Ni cx hr hf FF stays hl;have lP:=D9 w.params bU;have XK:(KF w.params).In s.heap:=cx.k.keeps stays;have nd:fd.ai.Nodup:=by simpa using bR.mp M8 fd (iW hf)
 have hlen:fd.ai.length=(xs++fd.gA).length:=by rw[iK,<-hv.len];show hl.symm
 have nG:gH bz Y s.heap (vs++ds) (xs++fd.gA):=hv.app si.vc;have r5:((fd.ai.map nm).zip (vs++ds)).map (·.1)=fd.ai.map nm:=by
  rw[List.map_fst_zip];rw[dT,hlen,<-nG.len];show ip _
 exact codeAny_call_function (fd:=fdOf r) (body:=mU r.st) (by rw[EP];have:=rm.depth;show⟨"A>1000,A+4*(B+2)+10.900",this⟩) (stays _ _ (EJ cx bU)) rfl FF.Nc FF.gen rfl (codeRec_of XK lP.2.2) (iC _ _ _ _ ?_);exact wpAny_newFunctionEnv_cells (scope:=cg r.st) (globals:=3) FF.kind (λx hx=>?_) λenv he s1 x=>⟨(cx.lim.keeps stays).keeps x.toInCall.keep,codeAny_func ?_⟩
 ·have bT:x.1∈fd.ai.map nm:=by rw[<-r5];show List.mem_map_of_mem hx
  obtain⟨y,hy,e⟩:=bJ.mp bT;rw[<-e];rcases FF.kY y hy with q | q
  ·show .inl q
  ·show .inr ⟨q,cellsFrom_some _ _ _ (.inl q)⟩
 ·have eS:env.scope=cg r.st:=congrArg PySem.Env.scope he;have eL:env.locals=s.heap.objs.size:=congrArg PySem.Env.locals he;have eG:env.globals=3:=congrArg PySem.Env.globals he;have eB:env.builtins=builtinsNs:=congrArg PySem.Env.builtins he;have eC:env.cells=cellsFrom (s.heap.objs.size+1) (cg r.st).names []:=congrArg PySem.Env.cells he;have eK:env.code=.ref r.cd:=congrArg PySem.Env.code he;have eQ:env.qual=Str.ofString r.ql++".<locals>.":=congrArg PySem.Env.qual he;have eF:env.frame=some env.locals:=(congrArg PySem.Env.frame he).trans (congrArg some eL.symm);clear he;have qu:∀y,(cg r.st).names.lookup y=some .cell->(env.cells.lookup y).isSome=true:=λy hy=>by rw[eC];show cellsFrom_some _ _ _ (.inl hy)
  have nJ:s.heap.get? env.locals=none:=by rw[eL];show i5 _
  have ER:∀y c,env.cells.lookup y=some c->s.heap.get? c=none:=λy c hc=>by
   have:=x.above y c (mem_of_lookup hc)
   rewrite [eL] at this
   show om (Nat.le_of_lt this)
  clear eC eL;obtain⟨h₁,tk,rfl,gr⟩:=YG x;have I:=at_.2.1;have S:Step nil Y Y s.heap h₁:=.grow I gr;have bI:∀b,s.heap.get? b=none->bz.get? b=none/\Y b=none/\¬ aD Y h₁ b:=λb hb=>by
   exact⟨?_,I.unset hb,uW I (λb o e=>⟨o,gr b o e,λ_ _ _=>rfl⟩) hb⟩;cases q:bz.get? b with
   |none=>rfl
   |some o=>have:=stays b o q;nomatch hb,this
  have kd:∀y,env.kindOf y=(cg r.st).names.lookup y:=λy=>by dsimp only[Env.kindOf];rw[eS]
  have c:Cn J w bz F (Wn k) (A.deeper env) ⟨env,env::f.fl⟩ (cg r.st) (ups fd.ai (xs++fd.gA) []) Y s Y { s with heap:=h₁,toks:=tk} n:=by
   exact⟨cx,wo,⟨rm.handled,Around.frames_deeper rm.frames,?_,?_⟩,⟨eS,FF.kind,eG,eB,.inr ⟨r,bU,eK,eQ⟩,λy z c h1 h2=>name_of_addr x.apart (mem_of_lookup h1) (mem_of_lookup h2),λy hy=>?_⟩,⟨⟨_,x.toInCall.ns⟩,(bI _ nJ).2.2,(bI _ nJ).1,λy c hc=>⟨⟨_,x.cell y c hc⟩,(bI _ (ER y c hc)).2.2,(bI _ (ER y c hc)).1⟩,λy v EV hy=>?_,λenv he=>?_⟩,(At.refl I).grow gr⟩
   ·show A.depth+1+4 * (n+1)+10<=900;have:=rm.depth;show⟨"A+1+4*(B+1)+10.900,A+4*(B+2)+10.900",this⟩
   ·show A.units+3+40 * (n+1)+100<=9000;have:=rm.units;show⟨"A+3+40*(B+1)+100.9000,A+40*(B+2)+100.9000",this⟩
   ·rcases hy with hy | hy
    ·show Option.isSome_iff_exists.mp (qu _ hy)
    ·rcases FF.i9 _ _ hy with q | q | q<;>cases q
   ·rcases Nk nd nG hlen hy with⟨h1,rv,h2,h3⟩ | ⟨_,h2⟩
    ·exact VC.has S h3 ?_;rcases FF.kY y h1 with q | q
     ·exact .inl ⟨(kd _).trans q,_,x.toInCall.ns,?_⟩;rw[Yx ((kd _).trans q) (by rw[r5];show Bz nd),h2]
     ·obtain⟨cc,fL⟩:=Option.isSome_iff_exists.mp (qu _ q);exact .inr ⟨.inl ((kd _).trans q),cc,fL,?_⟩;have:=x.cell _ _ fL
      rewrite [Yz (by rw[kd,q];decide) (by rw[r5];show Bz nd),h2] at this
      show this
    ·cases h2
   ·rcases aO.mp he with e | he
    ·rw[e];show⟨by rw[eS,FF.kind];decide,_,eF,(bI _ nJ).1,(bI _ nJ).2.2,_,x.toInCall.ns⟩
    ·show cK.step S env he
  have nw:Nw ⟨env,env::f.fl⟩ (cg r.st) (ups fd.ai (xs++fd.gA) []) s:=by
   exact⟨nJ,λy cc _ hc=>ER _ _ hc,λy hy=>?_,λy q=>?_,_,rfl,eF⟩
   ·rcases kK.mp q2 with q | q
    ·intro z v hz p b c e;rcases YB hz with m | m
     ·rcases bH.mp m with m | m
      ·show Nm q v m p b c e
      ·show Nm (bR.mp YF fd (iW hf)) v m p b c e
     ·cases m
    ·have e:=nq q
     rewrite [e] at hr
     show absurd hy (YD hr)
   ·rcases FF.i9 _ _ q with q | q | q<;>cases q
  exact bB (hS fd.body c nw FF.body hw) (λfl s' q=>?_) λe s' zz=>by obtain⟨kx,Y',s2,h1,h2,h3⟩:=zz;show fo.leave (Around.frames_deeper rm.frames) h3 λs' h4=>⟨kx,Y',s2,h1,at_.trans h2,h4⟩
  cases fl with
  |next=>
   obtain⟨m',Y',h1,h2,_⟩:=q;show⟨.none,Y',.none,h1,at_.trans h2.at_⟩
  |ret v=>
   obtain⟨y,Y',h1,h2,h3⟩:=q;show⟨y,Y',h1,h2,at_.trans h3⟩
  |brk=>show q.elim
  |cont=>show q.elim
set_option tactic.hygienic false
def EW(I:Inv J w bz Y h)(k:Kept bz Y h h'){a:Nat}{o:O}(e:Y a=some o){ob:Obj}(z:h.get? a=some ob):h'.get? a=some ob:=by
 obtain⟨o',e',u,q⟩:=k a ob z;rcases q with rfl | ⟨nm,_⟩
 ·show e'
 ·have R:=I.rep a o e;have hx:∀es ep,ob.data≠.dict es ep:=by
   intro es ep hd;cases R with
   |inst _ _ _=>show nm (.inl ⟨_,e,rfl⟩)
   |lst _ _ _=>show nm (.inl ⟨_,e,rfl⟩)
   |aP _ _=>show nm (.inl ⟨_,e,rfl⟩)
   |cO g _ _=>obtain⟨o2,e2,_,n,h3⟩:=g;nomatch z,e2;nomatch hd,h3
   |tup g _ _=>obtain⟨o2,e2,_,n,h3⟩:=g;nomatch z,e2;nomatch hd,h3
  rewrite [u.show hx] at e'
  show e'
def Nn{b:Nat}(k:Kept bz Y h h')(m:aD Y h b){ob:Obj}(z:h.get? b=some ob):h'.get? b=some ob:=by
 obtain⟨o',e',u,q⟩:=k b ob z;rcases q with rfl | ⟨nm,_⟩
 ·show e'
 ·show absurd m nm
def Np(I:Inv J w bz Y h)(k:Kept bz Y h h'):(∀b d,bj Y h' b d↔bj Y h b d)/\∀b,aD Y h' b↔aD Y h b:=by
 have da:∀b d,bj Y h' b d↔bj Y h b d:=by
  intro b d;constructor
  ·rintro⟨c,fs,ox,e,hx,hd⟩;obtain⟨ob,e'⟩:=(I.rep b _ e).here;have:=EW I k e e'
   nomatch hx,this
   show⟨c,fs,ox,e,e',hd⟩
  ·rintro⟨c,fs,ox,e,hx,hd⟩;show⟨c,fs,ox,e,EW I k e hx,hd⟩
 exact⟨da,λb=>?_⟩;dsimp only[aD];simp only[da]
def At.kept{s0:Shared}(x:At J w bz own Y0 s0 Y s)(k:Kept bz Y s.heap h'):At J w bz own Y0 s0 Y { s with heap:=h',toks:=tk}:=by
 obtain⟨⟨h,t,e⟩,I,S⟩:=x;obtain⟨da,mu⟩:=Np I k;exact⟨⟨h',tk,by rw[e]⟩,⟨λb ob e=>?_,λb q e=>?_,λb ob e m=>I.old b ob e ((mu b).mp m),λb d y=>I.sep b d ((da _ _).mp y),λb c d y z=>I.inj b c d ((da _ _).mp y) ((da _ _).mp z),λt ht=>tab_keep (I.tab t ht) ?_ λb o e r=>?_⟩,S.trans ⟨λb o e=>let ⟨o',e',_⟩:=k b o e;⟨o',e'⟩,λb o e n=>?_,λb o e n=>n⟩⟩
 ·obtain⟨o',e',_,q⟩:=k b ob (I.stays b ob e);rcases q with rfl | ⟨_,q⟩
  ·show e'
  ·nomatch e,q
 ·exact(I.rep b q e).keeps (λob z=>EW I k e z) λob d od z zd zo hq=>?_;obtain⟨c,fs,rfl⟩:=hq;show Nn k (.inr (.inl ⟨b,c,fs,ob,e,z,zd⟩)) zo
 ·obtain⟨ps,e1,_⟩:=I.tab t ht;rw[e1];show Nn k (.inr (.inr ⟨t,ht,rfl⟩)) e1
 ·obtain⟨o',e',u,_⟩:=k b o e;obtain⟨vs,q,t,hd,_⟩:=r
  rewrite [u.show λes ep z=>by nomatch hd,z] at e'
  show e'
 ·obtain⟨o',e',u,_⟩:=k b o e;show⟨o',e',λm=>n ((mu b).mp m),.inr u⟩
def EX{x C:Nat}{mA:Str->Option Value}{o':Obj}(I:h.Inst x C mA)(ho:h.get? x=some o)(hW:h'.get? x=some o')(hc:o'.cls=o.cls)(hd:∀c,o'.data≠.cls c)(r7:o'.dict=o.dict)(k:∀d od,o.dict=some d->h.get? d=some od->h'.get? d=some od):h'.Inst x C mA:=by
 obtain⟨o2,e2,c2,n2,r2⟩:=I
 nomatch ho,e2
 exact⟨o',hW,hc.trans c2,hd,?_⟩;rcases r2 with⟨a,b⟩ | ⟨d,a,b,c⟩
 ·show .inl ⟨r7.trans a,b⟩
 ·show .inr ⟨d,r7.trans a,b,c.at λod e=>k d od a e⟩
def YJ{E E':Value->Shared->Prop}{env:PySem.Env}{outer:List PySem.Env}{x:Nat}{vs:Array Value}{head:Value}{eO:Bool}{Q:Unit->Shared->Prop}
  (sE:A.frames=some (env::outer)) (hl:s.heap.FunFrames bz (env::outer)) (hf:env.frame=some L) (he:s.heap.get? x=some o) (hd:o.data=.fields vs) (dp:1<vs.size)
  (h:∀h' T',(∀b o',b≠x->b∉(env::outer).filterMap (·.frame)->s.heap.get? b=some o'->h'.get? b=some o')->(∀b o',b≠x->s.heap.get? b=some o'->∃sl,h'.get? b=some { o' with slots:=sl})->h'.get? x=some (Obj.mapFields (·.setIfInBounds 1 (Value.ref T')) o)->s.heap.get? T'=none->(∃oT ts,h'.get? T'=some oT/\oT.data=.fields ts/\ts[3]?=some .none)->Q () { s with heap:=h'}) :
  wpAny M A (do let a <-frameOf env;let pl <-entryPlaceOf L eO;let b <-EntryCells.newEntry head a .none (rawInt L) .none pl;setField (.ref x) 1 b) (λ_ s'=>wpAny M A (setFlight (.ref x) none) Q E s') E' s:=by
 have EY:x∉(env::outer).filterMap (·.frame):=λhm=>by
  obtain⟨_,o2,ho,YK⟩:=hl.mem hm
  rewrite [he] at ho;injection ho with ho;subst ho;show YK vs hd
 exact wb (wpAny_frameOf_fun sE hl hf λh1 gh=>?_);exact wb (wpAny_entryPlaceOf λpl iO=>?_);dsimp only[EntryCells.newEntry,newFields];exact wb (wpAny_newObj_type ?_ (iO.sizeOk5 _ _ _ _ _));have Nq:h1.get? x=some o:=(gh.2.1 x EY).trans he;have Nr:=cf (h:=h1) { cls:=.type "traceback",dict:=none,data:=.fields ([head,.ref L,.none,rawInt L,.none]++(if pl.isEmpty then List.replicate 6 Value.none else pl)).toArray} Nq
 exact wpAny_setField Nr hd dp ?_;have Nt:h1.objs.size≠x:=Nat.ne_of_gt (dK Nq);have xH:=Obj.data_mapFields hd (·.setIfInBounds 1 (Value.ref h1.objs.size));have Nu:=Heap.get?_update_self (Obj.mapFields (·.setIfInBounds 1 (Value.ref h1.objs.size))) Nr (Obj.isFreed_of_fields xH);have Nv:=(Heap.get?_update_other (h1.push { cls:=.type "traceback",dict:=none,data:=.fields ([head,.ref L,.none,rawInt L,.none]++(if pl.isEmpty then List.replicate 6 Value.none else pl)).toArray})
  (Obj.mapFields (·.setIfInBounds 1 (Value.ref h1.objs.size))) (aaa Nt)).trans (ik h1 rfl)
 dsimp only[setFlight];exact wb (wpAny_field Nu xH (x:=.ref h1.objs.size) (by simp[dp]) ?_);rw[if_pos (show(Value.ref h1.objs.size != Value.none)=true from by simp)];have keep:∀b o,b≠x->h1.get? b=some o ->
   (((h1.push { cls:=.type "traceback",dict:=none,data:=.fields ([head,.ref L,.none,rawInt L,.none]++(if pl.isEmpty then List.replicate 6 Value.none else pl)).toArray}).update x (Obj.mapFields (·.setIfInBounds 1 (Value.ref h1.objs.size)))).update h1.objs.size
    (Obj.mapFields (·.setIfInBounds 3 ((none:Option Addr).elim Value.none λf=>rawInt f)))).get? b=some o:=λb o ya hb=>by
  have YL:h1.objs.size≠b:=Nat.ne_of_gt (dK hb);rw[Heap.get?_update_other _ _ YL,Heap.get?_update_other _ _ (aaa ya)];show cf _ hb
 exact wpAny_setField Nv rfl (by simp only[sz,iK,List.length_cons,List.length_nil]<;>show⟨"3>0+1+1+1+1+1+A"⟩) (h _ h1.objs.size (λb o' lQ gJ hb=>keep b o' lQ ((gh.2.1 b gJ).trans hb)) (λb o' lQ hb=>?_) ?_ ?_ ?_)
 ·obtain⟨sl,hs⟩:=gh.2.2 b o' hb;show⟨sl,keep b _ lQ hs⟩
 ·rw[Heap.get?_update_other _ _ Nt];show Nu
 ·show om (by rw[gh.1];show ip _)
 ·show⟨_,_,Heap.get?_update_self _ Nv (Obj.isFreed_of_fields (Obj.data_mapFields rfl _)),Obj.data_mapFields rfl _,by first | (simp;done) | (rcases iO with rfl | ⟨_,_,_,_,_,_,_,rfl⟩<;>simp)⟩
def lH.fun:∀{fl:List PySem.Env},lH bz Y h fl->h.FunFrames bz fl:=by
 intro zl;induction zl with
 |nil=>
  intro _;show trivial
 |cons env r ih=>
  intro x;obtain⟨hk,L,hf,hb,hm,mm,o,es,ep,ho,hd,_⟩:=x env (.head _);show⟨hk,⟨L,o,hf,hb,ho,λvs q=>by nomatch hd,q⟩,ih λe he=>x e (.tail _ he)⟩
inductive Nx(h:Heap)(e:Value):Prop
 |mk (x:Nat) (o:Obj) (vs:Array Value) (T:Nat) (oT:Obj) (ts:Array Value) (h0:e=.ref x) (h1:h.get? x=some o) (h2:o.data=.fields vs) (h3:vs[1]?=some (.ref T)) (h4:T≠x) (h5:h.get? T=some oT) (h6:oT.data=.fields ts) (h7:ts[3]?=some .none):Nx h e
def Ny{f:Array Value->Array Value}:(Obj.mapFields f o).dict=o.dict:=by
 obtain⟨a1,a2,a3,a4⟩:=o;cases a3<;>rfl
def Nz{E E':Value->Shared->Prop}{env:PySem.Env}{outer:List PySem.Env}{k:Nat}{e:Value}{s1:Shared}{Q:Unit->Shared->Prop}(sE:A.frames=some (env::outer))(S:wY bz (env::outer) k e Y s1 s)(h:∀s',wY bz (env::outer) k e Y s1 s'->Nx s'.heap e->Q () s') :
  wpAny M A (noteFrame e env) (λ_ s'=>wpAny M A (setFlight e none) Q E s') E' s:=by
 obtain⟨⟨hh,tk,rfl⟩,kp,cK,x,rfl,hn,o,vs,mA,t,ho,hc,hd,I,hm,yb,hv⟩:=S;obtain⟨hk,L,hf,hb,NB,mm,BD⟩:=cK env (.head _);dsimp only at ho I kp hv;have EZ:∀g:Heap,Kept bz Y s1.heap g->g.FunFrames bz (env::outer):=λg kg=>by
  exact cK.fun.of_keeps λb o hb _=>?_;obtain⟨o',e',u,_⟩:=kg b o hb;show⟨o',e',u.data⟩
 have yc:∀b∈(env::outer).filterMap (·.frame),bz.get? b=none/\¬ aD Y s1.heap b/\∃o es ep,s1.heap.get? b=some o/\o.data=.dict es ep:=λb hb=>by
  obtain⟨e,he,q⟩:=List.mem_filterMap.mp hb;obtain⟨_,L',YM,aK,fK,_,o,es,ep,h1,h2,_⟩:=cK e he
  nomatch YM,q
  show⟨aK,fK,o,es,ep,h1,h2⟩
 have fin:∀(g:Heap),(∀b o',s1.heap.get? b=some o'->g.get? b=hh.get? b)->g.get? x=hh.get? x->(∀d od,o.dict=some d->hh.get? d=some od->g.get? d=some od)->∀(head:Value) (eO:Bool),wpAny M A (do let a <-frameOf env;let pl <-entryPlaceOf L eO;let b <-EntryCells.newEntry head a .none (rawInt L) .none pl;setField (.ref x) 1 b) (λ_ s'=>wpAny M A (setFlight (.ref x) none) Q E s') E' { s1 with heap:=g,toks:=tk}:=λg g1 g2 g3 head eO=>by
  have kg:Kept bz Y s1.heap g:=λb ob hb=>by
   obtain⟨o',e',u⟩:=kp b ob hb;show⟨o',(g1 b ob hb).trans e',u⟩
  have jw:1<vs.size:=by
   rcases hv with q | ⟨_,_,_,q,_⟩<;>show(Array.getElem?_eq_some_iff.mp q).1
  exact YJ (bz:=bz) (s:={ s1 with heap:=g,toks:=tk}) sE (EZ g kg) hf (g2.trans ho) hd jw λh' T' k1 k2 k3 k4 zz=>?_
  obtain⟨oT,ts,k5,k6,k7⟩:=zz;dsimp only at k1 k2 k3 k4;have BF:T'≠x:=λq=>by nomatch q,g2,ho,k4
  have qk:s1.heap.get? T'=none:=by
   cases q:s1.heap.get? T' with
   |none=>rfl
   |some o'=>
    obtain⟨o2,e2,_⟩:=kg T' o' q
    nomatch k4,e2
  have di:=Obj.data_mapFields hd (·.setIfInBounds 1 (Value.ref T'));exact h _ ⟨⟨h',tk,rfl⟩,λb ob hb=>?_,cK,x,rfl,hn,Obj.mapFields (·.setIfInBounds 1 (Value.ref T')) o,_,mA,t,k3,(Obj.cls_mapFields _ _).trans hc,di,?_,hm,?_,.inr ⟨T',oT,ts,by simp[jw],BF,qk,k5,k6,k7⟩⟩ ⟨x,_,_,T',oT,ts,rfl,k3,di,by simp[jw],BF,k5,k6,k7⟩
  ·obtain⟨o',e',u,q⟩:=kg b ob hb;have lQ:b≠x:=λz=>by nomatch z,hn,hb
   by_cases gJ:b∈(env::outer).filterMap (·.frame)
   ·obtain⟨f1,f2,o3,es,ep,f3,f4⟩:=yc b gJ
    nomatch hb,f3
    obtain⟨sl,e2⟩:=k2 b o' lQ e';show⟨_,e2,u.trans (.inr ⟨⟨es,ep,u.data.trans f4⟩,sl,rfl⟩),.inr ⟨f2,f1⟩⟩
   ·show⟨o',k1 b o' lQ gJ e',u,q⟩
  ·exact EX I ho k3 (Obj.cls_mapFields _ _) (λc q=>by nomatch di,q) ?_ λd od gW nD=>?_
   ·show Ny
   ·exact k1 d od (λq=>?_) (λq=>?_) (g3 d od gW nD)
    ·obtain⟨o2,e2,_,_,r2⟩:=I
     nomatch ho,e2
     rcases r2 with⟨a,_⟩ | ⟨d2,a,b2,_⟩
     ·nomatch gW,a
     ·nomatch gW,a;show b2 q
    ·obtain⟨_,_,o3,_,_,f3,_⟩:=yc d q
     nomatch yb d gW,f3
  ·intro d gW;show yb d (Ny ▸ gW)
 dsimp only[noteFrame];simp only[hf];rcases hv with h1 | ⟨T,oT,ts,h1,BF,qk,hT,yd,h3⟩
 ·exact wb (wpAny_field (s:={ s1 with heap:=hh,toks:=tk}) ho hd h1 ?_)
  rw[if_neg (by decide)];show fin hh (λ_ _ _=>rfl) rfl (λ_ _ _ q=>q) _ _
 ·exact wb (wpAny_field (s:={ s1 with heap:=hh,toks:=tk}) ho hd h1 ?_)
  rw[if_pos (show(Value.ref T != Value.none)=true from by simp)];exact wb (wpAny_field (s:={ s1 with heap:=hh,toks:=tk}) hT yd h3 ?_)
  rw[if_neg (show ¬ ((Value.none == rawInt L)=true) from by simp[rawInt])];exact wb (wpAny_setField (s:={ s1 with heap:=hh,toks:=tk}) hT yd (Array.getElem?_eq_some_iff.mp h3).1 ?_)
  have other:∀b,b≠T->(hh.update T (Obj.mapFields (·.setIfInBounds 3 Value.none))).get? b=hh.get? b:=λb hb=>Heap.get?_update_other _ _ (aaa hb);exact fin _ (λb o' hb=>other b λq=>by nomatch q,qk,hb) (other x (aaa BF)) (λd od gW nD=>?_) _ _
  exact(other d λq=>?_).trans nD;obtain⟨o2,e2,_,_,r2⟩:=I
  nomatch ho,e2
  rcases r2 with⟨a,_⟩ | ⟨d2,a,b2,c2⟩
  ·nomatch gW,a
  ·nomatch gW,a
   obtain⟨o3,es,ep,f1,f2,_⟩:=c2
   nomatch q,hT,f1
   nomatch yd,f2
def YN:Nj J w bz (wY bz) where
 leave:=by
  intro A env fl k e Y s1 s E Q sE S h;dsimp only[leaving];exact wb (Nz sE S λs' S' _=>h s' ⟨S'.same,S'.kept,λe he=>S'.cK e (.tail _ he),S'.exc⟩)
end
end Tactic
namespace Tactic
open PySem PySem.W PySem.Calls PyProof.Rows PySem.Spec Lh.Tactic
open Builtin Builtin.ObjectAttr
noncomputable section
section
variable{J:Program}{w:World}{A:Around}{E:Value->Shared->Prop}{h:Heap}{g:Array GenState}{d:Drawn}{t:Nat}{os:OsState}
variable{cn q:Str}{C N x:Addr}{bs bm:List Value}{sn:List Str}{sub:List Value}{ab:Bool}{col:Option Bool}{dd:Option Addr}{k0 k1 k2 k3 k5:Option Value}{B newId E0 sa owner:String}
 {mN mA:Str->Option Value}{name:Str}{v:Value}
def YQ{tk:Tok}{Q:Fin->Shared->Prop}{o:Obj}(SF:StoreFacts B bm sa owner)
  (hC:h.get? C=some (excClassObj cn q C N bs bm true sn sub ab col dd k0 k1 k2 k3 k5 newId)) (hn:h.Ns N mN) (sF:mN name=none)
  (hB:typeLookup (.type B) name=pure none) (hx:h.get? x=some o) (hc:o.cls=.ref C) (qo:∀c,o.data≠.cls c) (vh:o.dict=none)
  (hq:∀h' tk',h'.get? x=some { cls:=o.cls,dict:=some h.objs.size,data:=o.data,slots:=o.slots}->h'.Ns1 h.objs.size (λy=>if y=name then some v else none)->(∀b ob,b≠x->h.get? b=some ob->h'.get? b=some ob)->Q (.done (.ret .none)) ⟨h',g,d,tk',os⟩) :
  wpAny (model J w) A (Builtin.«object.__setattr__» ⟨[.ref x,.str name tk,v],[]⟩) Q E ⟨h,g,d,t,os⟩:=by
 have ye:=SF.passes (.ref x);unfold Builtin.«object.__setattr__»
 repeat (first | rw[refuse_eq] | (rw[refuseLoop_ref,ye]) | (with_reducible exact wpAny_loadPart_at hx ?_;rw[hc]) | with_reducible exact wpAny_mroOf_exc hC ?_ | (with_reducible exact wpAny_typeLookup_exc hC hn SF.mro hB ?_;rw[sF]) | wp_step)
 rewrite [vh,if_neg (by simp[typeHasDict])]
 split
 ·rename_i vi;cases vi
 split
 ·rename_i c vi;show absurd vi (qo c)
 ·have bT:(h.push { cls:=.type "dict",data:=.dict #[]}).get? x=some o:=cf _ hx
  have fM:x≠h.objs.size:=fU (dK hx);exact wb (wpAny_alloc' ?_);exact wb (wpAny_update' bT ?_);exact aL ?_;have YR:((h.push { cls:=.type "dict",data:=.dict #[]}).update x λo=>{ cls:=o.cls,dict:=some h.objs.size,data:=o.data,slots:=o.slots}).get? h.objs.size
    = some { cls:=.type "dict",data:=.dict #[]}:=
   (Heap.get?_update_ne _ _ _ _ fM.symm).trans (Heap.get?_push_at rfl rfl)
  have qb:((h.push { cls:=.type "dict",data:=.dict #[]}).update x λo=>{ cls:=o.cls,dict:=some h.objs.size,data:=o.data,slots:=o.slots}).Ns h.objs.size (λ_=>none):=
   ⟨_,#[],_,YR,rfl,λe he=>absurd he (by simp),λ_=>rfl⟩
  show wpAny _ _ (storeInDict h.objs.size (.str name tk) name v) _ _ _;unfold storeInDict newKeyGuard;exact wb (aL (wb (wpAny_nsSet1 (Heap.Ns1.of_empty qb) λh' hV hs=>?_)));obtain⟨oD,esD,epD,YS,YT,YV⟩:=hV.count (Within.cons name v Within.nil);exact wb (wpAny_lookBehind YS (by rw[YT];show pastItsLine_dict (Nat.le_trans YV (by rw[List.length_cons,List.length_nil,sizeLine_eq];show⟨"0+1.16777216+1"⟩))) ?_)
  wp_walk
  exact hq h' _ ?_ hV λb ob lQ hb=>?_
  ·exact(hs.2 x fM).trans (Heap.get?_update_self _ bT ?_);have sE:=(Heap.get?_some_iff.mp hx).2;obtain⟨oc,od,YW,osl⟩:=o;clear hc vh qo hq hx bT;cases YW<;>first | rfl | show sE
  ·show(hs.2 b (fU (dK hb))).trans ((Heap.get?_update_ne _ _ _ _ lQ).trans (cf _ hb))
def YX{Q:Unit->Shared->Prop}{o:Obj}(SF:StoreFacts B bm sa owner)
  (hC:h.get? C=some (excClassObj cn q C N bs bm true sn sub ab col dd k0 k1 k2 k3 k5 newId)) (hn:h.Ns N mN) (iA:mN "__setattr__"=none) (sF:mN name=none)
  (hB:typeLookup (.type B) name=pure none) (hx:h.get? x=some o) (hc:o.cls=.ref C) (qo:∀c,o.data≠.cls c) (vh:o.dict=none)
  (hq:∀h' tk',h'.get? x=some { cls:=o.cls,dict:=some h.objs.size,data:=o.data,slots:=o.slots}->h'.Ns1 h.objs.size (λy=>if y=name then some v else none)->(∀b ob,b≠x->h.get? b=some ob->h'.get? b=some ob)->Q () ⟨h',g,d,tk',os⟩) :
  wpAny (model J w) A (setAttr (.ref x) name v) Q E ⟨h,g,d,t,os⟩:=by
 have f3:=SF.slot.bind (.ref x);unfold setAttr callSpecial? specialOf
 repeat (any_goals (first | assumption | (with_reducible exact wpAny_loadPart_at hx ?_;rw[hc]) | (with_reducible exact wpAny_typeLookup_exc hC hn SF.mro SF.slot.lookup ?_;rw[iA]) | wp_step))
 exact codeAny_call_builtin SF.slot.plain SF.entry (wpAny_check_sa SF hC hx hc (YQ SF hC hn sF hB hx hc qo vh λh' tk' a b c=>?_))
 repeat (any_goals (first | assumption | wp_step))
 show hq h' tk' a b c
def YY{M:Model}{o:Obj}{nameV:Value}{Q:Unit->Shared->Prop}(yf:bm.contains (.type "BaseException")=true)(hC:h.get? C=some (excClassObj cn q C N bs bm true sn sub ab col dd k0 k1 k2 k3 k5 newId))
  (hx:h.get? x=some o) (hc:o.cls=.ref C) (hq:Q () ⟨h,g,d,t,os⟩):wpAny M A (checkBuiltinCall "BaseException.__getattribute__" ⟨[.ref x,nameV],[]⟩) Q E ⟨h,g,d,t,os⟩:=by
 have hk:builtinKind "BaseException.__getattribute__"=some .slot:=by decide +kernel
 have hsplit:splitId "BaseException.__getattribute__"=some ("BaseException","__getattribute__"):=by decide +kernel
 have E3:(Value.ref C::bm).contains (.type "BaseException")=true:=by rw[List.contains_cons,yf,Bool.or_true]
 have ha:=F.args_bexc_ga (.ref x) nameV;simp only[checkBuiltinCall,hk,hsplit];exact wb ?_
 ·unfold isInstance
  repeat (first | (with_reducible exact wpAny_loadPart_at hx ?_;rw[hc]) | (with_reducible exact wpAny_isSubtype_exc hC ?_;rw[E3]) | wp_step)
  show hq
def YZ{tk:Tok}{Q:Fin->Shared->Prop}(E4:mroOf (.type B)=pure bm)
  (hC:h.get? C=some (excClassObj cn q C N bs bm true sn sub ab col dd k0 k1 k2 k3 k5 newId)) (hn:h.Ns N mN) (sF:mN name=none)
  (hB:typeLookup (.type B) name=pure none) (I:h.Inst x C mA) (hv:mA name=some v) (hq:Q (.done (.ret v)) ⟨h,g,d,t,os⟩) :
  wpAny (model J w) A (Builtin.«object.__getattribute__» ⟨[.ref x,.str name tk],[]⟩) Q E ⟨h,g,d,t,os⟩:=by
 obtain⟨o,hx,hc,qo,hd⟩:=I;rcases hd with⟨_,Y8⟩ | ⟨dx,Za,au,iA⟩
 ·nomatch Y8 name,hv
 unfold Builtin.«object.__getattribute__»
 repeat (first | (with_reducible exact wpAny_loadPart_at hx ?_;rw[hc]) | (with_reducible exact wpAny_typeLookup_exc hC hn E4 hB ?_;rw[sF]) | wp_step)
 split
 ·rename_i c vi;show absurd vi (qo c)
 unfold instanceDict
 repeat (first | (with_reducible exact wpAny_loadPart_at hx ?_;rw[hc]) | with_reducible exact wpAny_loadPart_at hC ?_ | wp_step)
 rw[Za]
 repeat (first | (with_reducible exact wpAny_nsGet iA.ns ?_;rw[hv]) | wp_step)
 show hq
def Zb{expr:Bool}{Q:Value->Shared->Prop}(FB:ExcAttrBase B bm)
  (hC:h.get? C=some (excClassObj cn q C N bs bm true sn sub ab col dd k0 k1 k2 k3 k5 newId)) (hn:h.Ns N mN) (Zc:mN "__getattribute__"=none) (Zd:mN "__getattr__"=none) (sF:mN name=none)
  (hB:typeLookup (.type B) name=pure none) (I:h.Inst x C mA) (hv:mA name=some v) (hh:handedOut v=pure v) (hq:Q v ⟨h,g,d,t+1,os⟩) :
  wpAny (model J w) A (getAttr (.ref x) name expr) Q E ⟨h,g,d,t,os⟩:=by
 obtain⟨o,hx,hc,_⟩:=id I;have f3:=FB.ga.bind (.ref x);have E5:(expr && onTheHeap (Value.builtin "BaseException.__getattribute__"))=false:=by cases expr<;>rfl
 have sG:(Value.builtin "BaseException.__getattribute__" == Value.builtin "object.__getattribute__")=false:=by decide +kernel
 have bT:(onTheHeap (Value.ref C) && Value.builtin "BaseException.__getattribute__" == Value.builtin "object.__getattribute__")=false:=by rw[sG];rfl
 unfold getAttr getAttrBy
 repeat (any_goals (first | assumption | (with_reducible exact wpAny_loadPart_at hx ?_;rw[hc]) | (with_reducible exact wpAny_typeLookup_exc hC hn FB.mro FB.ga.lookup ?_;rw[Zc]) | (with_reducible exact wpAny_typeLookup_exc hC hn FB.mro FB.noGetattr ?_;rw[Zd]) | wp_step))
 exact codeAny_call_builtin FB.ga.plain F.entry_bexc_ga (YY FB.hasBase hC hx hc (YZ FB.mro hC hn sF hB I hv ?_))
 repeat (any_goals (first | assumption | wp_step))
end
end
end Tactic
namespace Tactic
open PySem PySem.W PySem.Calls PyProof.Rows PySem.Spec Lh.Tactic
noncomputable section
variable{J:Program}{w:World}{bz:Heap}
set_option tactic.hygienic false
abbrev vj:Obj:=excClassObj (Str.ofString "LispSignal") (Str.ofString "LispSignal") 38 37 [.type "Exception"] [.type "Exception",.type "BaseException",.type "object"] true [] [] false none none (some (R 22)) none (some (S "LispSignal" 196)) (some (S "LispSignal" 204)) (some (B true)) "Exception.__new__"
def Ze(P:Params):dY P 38=vj:=by kernel_rfl
def NC:List (String×Nat×Value):=[("__module__",203,mn),("__firstlineno__",207,It 5 206),("__init__",216,R 35),("__static_attributes__",219,R 36),("__weakref__",221,R 39),("__doc__",222,N)]
def Zf(P:Params):dY P 37=D P NC 3:=by kernel_rfl
def sH(P:Params):Str->Option Value:=nsFind (Array.mk (jQ P NC))
def Zg(P:Params):∀(l:List (String×Nat×Value)),∀e∈jQ P l,∃n t,e.key=.str n t:=by
 intro zl;induction zl with
 |nil=>
  intro e h;cases h
 |cons zx r ih=>
  obtain⟨n,t,v⟩:=zx;intro e h;dsimp only[jQ] at h;rcases aO.mp h with rfl | h
  ·show⟨_,_,rfl⟩
  ·show ih e h
def Zh:(kA.contains 38 && kA.contains 37)=true:=by decide +kernel
def E6(cx:Cx w bz):bz.get? 38=some vj/\bz.Ns 37 (sH w.params):=by
 have:=Zh
 rewrite [ba] at this
 have h1:=cx.k _ _ (qt (f:=dY w.params) (List.contains_iff_mem.mp this.1));have h2:=cx.k _ _ (qt (f:=dY w.params) (List.contains_iff_mem.mp this.2))
 rewrite [Ze] at h1
 rewrite [Zf] at h2
 exact⟨h1,_,_,_,h2,rfl,λe he=>?_,λ_=>rfl⟩;show Zg _ _ e (by simpa using he)
def Zi(P:Params):sH P "__init__"=some (.ref 35):=by kernel_rfl
def NF(P:Params):sH P "__setattr__"=none:=by kernel_rfl
def Zj(P:Params):sH P "__getattribute__"=none:=by kernel_rfl
def Zk(P:Params):sH P "__getattr__"=none:=by kernel_rfl
def NK(P:Params):sH P (nm 23)=none:=by kernel_rfl
def Zm(P:Params):sH P (nm 24)=none:=by kernel_rfl
def NM:typeLookup (.type "Exception") (nm 23)=pure none:=by rw[typeLookup_type,builtinLookup_eq_fast];kernel_rfl
def Zn:typeLookup (.type "Exception") (nm 24)=pure none:=by rw[typeLookup_type,builtinLookup_eq_fast];kernel_rfl
def NP:(nm 23 == nm 24)=false:=by decide +kernel
def Zo:(nm 22 == nm 23)=false:=by decide +kernel
def Zq:(nm 22 == nm 24)=false:=by decide +kernel
def Zr:(match fT[1]? with | some r=>(cg r.st).names.all λx=>(match x.2 with | .cell=>false | _=>true) | none=>true)=true:=by kernel_rfl
theorem NQ:∃r,fT[1]?=some r/\r.a=35:=⟨_,rfl,rfl⟩
theorem NR:fns[1]?=some f1:=rfl
def NS{A:Around}{E:Value->Shared->Prop}{s:Shared}{f:Act}{sc:Scope}{z:Stmt}{a b k x:Nat}{vb:Value}{Q:Flow->Shared->Prop}(st:dZ f sc)(ak:AO sc (.asg (.attr (.v a) k) (.v b)) z=true)(hb:eE s.heap f.env (nm b) vb)(ha:eE s.heap f.env (nm a) (.ref x))
  (h:wpAny (model J w) A (setAttr (.ref x) (nm k) vb) (λ_=>Q .next) E s):wpAny (model J w) A (exec z f.env) Q E s:=by
 exact rJ ak λ_ v pos h'=>bp h' λtg h'=>dN h' λh1 h2 h3=>?_;revert h3;exact fY h1 λo q p h5=>cH h5 λh5 h6 h3=>fZ (P:=λq=>wpAny (model J w) A (exec (.Assign [.Attribute o q p] v pos) f.env) Q E s) h6 ?_;have h3:=Mu (line:=pos.line) st h3;clear h';obtain⟨p1,rfl,_⟩:=DX h2;obtain⟨p2,rfl,_⟩:=DX h5;show Mv (hb.eval st (Mm (ha.eval st h))) h3 rfl rfl
def Zt(cx:Cx w bz){A:Around}{E:Value->Shared->Prop}{s:Shared}{x:Nat}{o:Obj}{vs:Array Value}{sy v2:Value}{P:Value->Shared->Prop}(stays:bz.StaysIn s.heap)(room:A.depth<1000)(hx:s.heap.get? x=some o)(hc:o.cls=.ref 38)(hd:o.data=.fields vs)(vh:o.dict=none)
  (h:∀h' tk o',h'.get? x=some o'->o'.cls=.ref 38->o'.data=.fields vs->(∀d,o'.dict=some d->s.heap.get? d=none)->(∃mA,h'.Inst x 38 mA/\mA (nm 23)=some sy)->(∀b ob,b≠x->s.heap.get? b=some ob->h'.get? b=some ob)->P .none { s with heap:=h',toks:=tk}) :
  wpAny (model J w) A (call (.ref 35) [.ref x,sy,v2]) P E s:=by
 obtain⟨r,hr,ha⟩:=NQ;obtain⟨r',oX,ak⟩:=EI DP NR
 nomatch hr,oX
 have FF:=Nh ak;have bU:=Bc hr;have XK:(KF w.params).In s.heap:=cx.k.keeps stays;have lP:=D9 w.params bU;obtain⟨ds,si,iC⟩:=Ni cx hr NR FF stays (vs:=[.ref x,sy,v2]) rfl;obtain rfl:ds=[]:=by clear iC;cases si;rfl
 have je:∀y∈(cg r.st).names,y.2≠.cell:=λy hy e=>by
  have:=Zr
  rewrite [hr] at this
  have z:=bR.mp this _ hy
  nomatch e,z
 have jY:∀k∈f1.ai,(cg r.st).names.lookup (nm k)=some .local:=λk hk=>by
  rcases FF.kY k hk with q | q
  ·show q
  ·show absurd rfl (je _ (mem_lookup q))
 exact wpAny_call ?_;rw[<-ha];exact codeAny_call_function (fd:=fdOf r) (body:=mU r.st) (by rw[EP];show room) (stays _ _ (EJ cx bU)) rfl FF.Nc FF.gen rfl (codeRec_of XK lP.2.2) (iC _ _ _ _ ?_);exact wpAny_newFunctionEnv (scope:=cg r.st) (globals:=3) je (λy hy=>?_) (λh₁ iA nI=>⟨(cx.lim.keeps stays).fresh _ nI,codeAny_func ?_⟩) FF.kind
 ·have yg:y.1∈f1.ai.map nm:=by
   have hz:(((f1.ai.map nm).zip ([.ref x,sy,v2]++[])).map (·.1))=f1.ai.map nm:=rfl;rw[<-hz];show List.mem_map_of_mem hy
  obtain⟨k,hk,e⟩:=bJ.mp yg;rw[<-e];show jY k hk
 have old:∀b ob,s.heap.get? b=some ob->h₁.get? b=some ob:=λb ob e=>nI.extBut b ob (fU (dK e)) (cf _ e);show wpAny (model J w) (_:Around) (execs (mU r.st) (newEnv (cg r.st) s.heap.objs.size 3 [] ((fdOf r).qualname++".<locals>.") (some r.a) (fdOf r).code none (fdOf r).builtins)) _ _ _;generalize he:newEnv (cg r.st) s.heap.objs.size 3 [] ((fdOf r).qualname++".<locals>.") (some r.a) (fdOf r).code none (fdOf r).builtins=env;have eS:env.scope=cg r.st:=congrArg PySem.Env.scope he.symm;have eL:env.locals=s.heap.objs.size:=congrArg PySem.Env.locals he.symm;have st:dZ ⟨env,[]⟩ (cg r.st):=⟨eS,FF.kind,congrArg PySem.Env.globals he.symm,congrArg PySem.Env.builtins he.symm,.inr ⟨r,bU,congrArg PySem.Env.code he.symm,congrArg PySem.Env.qual he.symm⟩,λy z c h1=>(by rewrite [<-he] at h1;cases h1),λy hy=>hy.elim (λhy=>absurd rfl (je _ (mem_lookup hy))) λhy=>absurd (FF.i9 _ _ hy) (by simp)⟩;clear he;have has:∀(hh:Heap),(∀ob,h₁.get? s.heap.objs.size=some ob->hh.get? s.heap.objs.size=some ob)->∀k v,k∈f1.ai->(((f1.ai.map nm).zip ([.ref x,sy,v2]++[])).reverse.lookup (nm k))=some v->eE hh env (nm k) v:=λhh hk k v hp e=>
  .inl ⟨by unfold Env.kindOf;rw[eS];show jY k hp,_,by rw[eL];show iA.at' hk,e⟩
 have E7:(((f1.ai.map nm).zip ([.ref x,sy,v2]++[])).reverse.lookup (nm 22))=some (.ref x):=by
  show List.lookup (nm 22) [(nm 24,v2),(nm 23,sy),(nm 22,.ref x)]=_;rw[lc,Zq,lc,Zo,lc];simp
 have NT:(((f1.ai.map nm).zip ([.ref x,sy,v2]++[])).reverse.lookup (nm 23))=some sy:=by
  show List.lookup (nm 23) [(nm 24,v2),(nm 23,sy),(nm 22,.ref x)]=_;rw[lc,NP,lc];simp
 have NV:(((f1.ai.map nm).zip ([.ref x,sy,v2]++[])).reverse.lookup (nm 24))=some v2:=by
  show List.lookup (nm 24) [(nm 24,v2),(nm 23,sy),(nm 22,.ref x)]=_;rw[lc];simp
 have bT:=old _ _ hx;have E8:x≠s.heap.objs.size:=fU (dK hx);obtain⟨C1,C2⟩:=E6 cx;have gX:=old _ _ (stays _ _ C1);have NW:=(C2.keeps stays).keeps old;have NX:x≠38:=λq=>by
  clear h has iC iA E8 E7 NT NV;subst q
  nomatch stays _ _ C1,hx;cases hd
 have E9:(37:Nat)≠x:=λq=>by
  obtain⟨o2,es,ep,e1,e2,_⟩:=C2.keeps stays
  nomatch q,hx,e1;nomatch hd,e2
 have bd:jU (cg r.st) [.asg (.attr (.v 22) 23) (.v 23),.asg (.attr (.v 22) 24) (.v 24)] (mU r.st)=true:=FF.body;rcases Ew bd with⟨e,_⟩ | ⟨z1,r1,e1,b1,b2⟩
 ·cases e
 rcases Ew b2 with⟨e,_⟩ | ⟨z2,r2,e2,b3,b4⟩
 ·cases e
 have e3:r2=[]:=by
  cases r2 with
  |nil=>rfl
  |cons _ _=>show(aZ b4).elim
 subst e3;rw[e1,e2];exact wpAny_execs_cons (NS (f:=⟨_,[]⟩) st b1 (has h₁ (λ_ q=>q) 23 sy (by decide) NT) (has h₁ (λ_ q=>q) 22 _ (by decide) E7) ?_);exact YX F.store_Exception gX NW (NF _) (NK _) NM bT hc (λc q=>by nomatch hd,q) vh λh2 nE g1 g2 g3=>?_
 have hD:h₁.objs.size≠x:=Nat.ne_of_gt (dK bT);have I2:h2.Inst x 38 (λy=>if y=nm 23 then some sy else none):=⟨_,g1,hc,λc q=>(by nomatch hd,q),.inr ⟨_,rfl,hD,g2⟩⟩
 exact wpAny_execs_cons (NS (f:=⟨_,[]⟩) st b3 (has h2 (λ_ q=>g3 _ _ (aaa E8) q) 24 v2 (by decide) NV) (has h2 (λ_ q=>g3 _ _ (aaa E8) q) 22 _ (by decide) E7) ?_);exact store_attr (ns:=[nm 23]) F.store_Exception (g3 _ _ (aaa NX) gX) (NW.at' λob q=>g3 _ _ E9 q) (NF _) (Zm _) Zn NX I2 (λh3 nK I3 g4 g5=>?_) (λy hy=>?_) (by rw[sizeLine_eq];decide)
 ·exact wpAny_execs_nil ?_;obtain⟨o1,j1,j2,j3,_,j5⟩:=g5 _ g1;exact h h3 nK o1 j1 (j2.trans hc) (j3.trans hd) (λd q=>?_) ⟨_,I3,?_⟩ λb ob hb NZ=>g4 b ob hb (λo0 dx gV d7 q=>?_) (g3 _ _ hb (old _ _ NZ))
  ·have:=j5 _ rfl
   nomatch q,this
   have hs:h₁.objs.size=s.heap.objs.size+1:=nI.1.trans (Heap.size_push ..);show om (by rw[hs];show Nat.le_succ _)
  ·have:nm 23≠nm 24:=by simpa using NP
   rw[if_neg this,if_pos rfl]
  ·nomatch g1,gV
   cases d7
   subst q;show absurd (dK (old _ _ NZ)) (Nat.lt_irrefl _)
 ·by_cases q:y=nm 23
  ·rw[q];show .head _
  ·exfalso;apply hy;show if_neg q
def Zu{M:Model}{A:Around}{E:Value->Shared->Prop}{s:Shared}{env:PySem.Env}{x:Sem Value}{Q:Flow->Shared->Prop}(hh:A.handled=none)
  (h:wpAny M A x (λv s1=>∃e o vs,v=.ref e/\s1.heap.get? 38=some vj/\s1.heap.get? e=some o/\o.cls=.ref 38/\o.data=.fields vs/\vs[1]?=some .none/\E (.ref e) s1) E s) :
  wpAny M A (raiseStmt env (some x) none) Q E s:=by
 have E3:(Value.ref 38::[Value.type "Exception",.type "BaseException",.type "object"]).contains (.type "BaseException")=true:=by decide +kernel
 unfold raiseStmt;exact wb (bB h (λv s1 h₁=>?_) λ_ _ x=>x);obtain⟨e,o,vs,rfl,hC,he,Fb,hd,h1,hE⟩:=h₁;obtain⟨hp,g,d,tk,os⟩:=s1
 repeat (first | (with_reducible exact wpAny_loadPart_at he ?_;rw[Fb]) | with_reducible exact wpAny_loadPart_at hC ?_ | (with_reducible exact wpAny_isSubtype_exc hC ?_;rw[E3]) | wp_step)
 rw[hd];exact aL ?_;rw[h1];exact aL ?_;rw[if_neg (by decide)];show aL (wpAny_raiseNew_none hh hE)
theorem Zv{M:Model}(h:Heap)(hC:h.get? 38=some vj):∃k,(k=Keeper.frame\/k=Keeper.machine\/k=Keeper.boundFrame)/\Looks M h (keeperOf (.ref 38)) k:=
 ⟨.machine,.inr (.inl rfl),λA Q E s kp q=>by
  obtain⟨hp,g,d,tk,os⟩:=s;show wpAny_keeperOf_exc (kp _ _ hC) q⟩
def Zw{k:Nat}{e:E}(he:SE e):SS (.raise k e):=by
 intros;intro n c nw z ak N R X hw;exact Dx ak λ_ _ pos h=>dM h λ_ h=>cG h λ_ _ _ Fc h=>bx h λg gp h=>eZ h λ_ d h=>fX h λ_ kk vm h=>rL h λ_ h=>rO h λh1 h2 h3 h4 h5 h6=>fZ h2 (aC h5 (gG h6 ?_));have yh:bO sc [.cS k,e] [.Constant (.str (nm k)) kk vm,d]=true:=by
  show(ns 22 (.Constant (.str (nm k)) kk vm) && ay sc (.cS k) (.Constant (.str (nm k)) kk vm) && (ns 22 d && ay sc e d && true))=true;rw[h3,h4,show ay sc (.cS k) (.Constant (.str (nm k)) kk vm)=true from beq_self_eq_true (nm k)];rfl
 have oW:starEach [d] f.env=[(false,eval d f.env)]:=pY h4;have N0:wE W (.cS k) m (λv s=>v=.str k/\wE W e m (λ_ s=>X k s) X s) X Y:=⟨rfl,hw⟩;obtain⟨C1,C2⟩:=E6 c.cx;rw[arm_exec_Raise];have main:wpAny (model J w) A (eval (.Call (.Name g gp) [.Constant (.str (nm k)) kk vm,d] [] Fc) f.env) (λv s1=>∃e o vs,v=.ref e/\s1.heap.get? 38=some vj/\s1.heap.get? e=some o/\o.cls=.ref 38/\o.data=.fields vs/\vs[1]?=some .none/\BE J w bz F f.fl Y0 s0 X (.ref e) s1) (BE J w bz F f.fl Y0 s0 X) s:=by
  rw[nB];exact wb (uR c.cx c.st c.stays h1 ?_);exact callWith_of (P:=λh=>h.get? 38=some vj) (by rw[noStar yh];rfl) Zv (Ln yh ?_);have a1:ay sc (.cS k) (.Constant (.str (nm k)) kk vm)=true:=beq_self_eq_true (nm k);exact spliced_more (SE.then (KH k) c a1 N0 λv1 x1 Y1 s1 jW gV c1=>spliced_more (rest:=[]) (he.then c1 h3 gV.2 λv2 x2 Y2 s2 qh hX c2=>spliced_nil ?_) oW) rfl;obtain⟨e1,_⟩:=gV;subst e1;obtain⟨t1,rfl⟩:∃t,v1=.str (nm k) t:=by cases jW;show⟨_,rfl⟩
  exact⟨c2.stays _ _ C1,?_⟩;have at2:=c2.at_;have Fe:=c2.lv.cK;have bV:=c2.stays;have rm:=c2.rm;have A2:=c2.wo.A2;clear hw N0;obtain⟨hh,gg,dd,tt,oo⟩:=s2;obtain⟨r1,vn,Zx⟩:=NQ;exact wpAny_call_exc_init PySem.F.excBase_Exception (bV _ _ C1) (C2.keeps bV) (Zi _) (Zx ▸ bV _ _ (EJ c.cx (Bc vn))) rfl (λqf x' hm=>?_) (by rw[sizeLine_eq];show 2<=16777216;show⟨"2.16777216"⟩);obtain⟨tp,fj,_,_⟩:=hm.there;exact Zt c.cx (s:=⟨qf,gg,dd,tt,oo⟩) (λb o q=>hm.keeps b o (bV b o q)) ?_ fj rfl rfl rfl λjX tk o' j1 j2 j3 j4 ⟨mA,j5,j6⟩ j7=>⟨rfl,x',o',_,rfl,?_,j1,j2,j3,rfl,k,Y2,⟨hh,gg,dd,tt,oo⟩,hX,at2,?_⟩
  ·show A.depth+(Code.builtin "type.__call__" ⟨.ref (cD 0)::([]++({ pos:=[.str (nm k) t1,v2]}:Args).pos),[]⟩).weight<1000
   have:(Code.builtin "type.__call__" ⟨.ref (cD 0)::([]++({ pos:=[.str (nm k) t1,v2]}:Args).pos),[]⟩).weight<=2:=by show _+1+0+0<=2;show Nat.le_of_ble_eq_true rfl
   show⟨"A+B>1000,B.2,A+4*C+10.900",this,rm.depth⟩
  ·exact j7 38 _ (λq=>?_) (hm.keeps _ _ (bV _ _ C1));have:=hm.new;rw[<-q] at this
   nomatch bV _ _ C1,this
  ·rw[A2];have hk:∀b ob,hh.get? b=some ob->jX.get? b=some ob:=λb ob hb=>j7 b ob (λq=>by nomatch q,hm.new,hb) (hm.keeps b ob hb)
   exact⟨⟨jX,tk,rfl⟩,λb ob hb=>⟨ob,hk b ob hb,.inl rfl,.inl rfl⟩,Fe,x',rfl,hm.new,o',_,mA,t1,j1,j2,j3,j5,j6,λd hd=>?_,.inl rfl⟩;cases q:hh.get? d with
   |none=>rfl
   |some od=>
    have:=j4 d hd
    nomatch hm.keeps _ _ q,this
 exact wb (wpAny_standAt (Zu c.rm.handled ?_))
 first
  |show wb (bB main (λv s1 h₁=>wb (wpAny_standAt (aL h₁))) λ_ _ x=>x)
  |(simp only[evalOpt,Option.map];show wb (bB main (λv s1 h₁=>wb (wpAny_standAt (aL h₁))) λ_ _ x=>x))
def Zy:nm 23=("symbol":Str):=by kernel_rfl
def Zz{b:List Sm}{x:Nat}(hb:lN b):SS (.jP b x):=by
 intros;intro n c nw z ak N R X hw;exact Dy ak λbo _ _ _ pos h=>bp h λhd h=>?_;cases hd with | ExceptHandler _ _ _ hp=>?_
 exact dM h λ_ h=>bx h λg gp h=>dM h λnn h=>bp h λ_ h=>wG h λ_ p3 h=>dM h λ_ h=>fY h λ_ q p2 h=>bx h λn' p1 h=>rO h λh1 h2 h3 h4 h5 h6=>dN h6 λh6 h7 h8=>aC h7 (aC h8 ?_);have e4:=bq.mp h4;subst e4;have ZC:n'=nm x:=cH h3 λa _=>bq.mp a;clear h h3 h4;subst ZC;have e6:q=nm 23:=by rw[Zy];show bq.mp h6
 subst e6;have jY:sc.names.lookup (nm x)=some .local:=AH h5;obtain⟨outer,jZ,ZD⟩:=nw.top;exact wpAny_Try_except (bB (hb c nw h1 hw) (λfl s1 q=>?_) λe s1 zz=>?_)
 ·cases fl with
  |next=>show wpAny_execs_nil q
  |ret v=>show q
  |brk=>show q.elim
  |cont=>show q.elim
 ·obtain⟨k,Y',s2,hX,at2,hF⟩:=zz;rw[c.wo.A2,jZ] at hF;exact Nz (by rw[<-jZ];show c.rm.frames) hF λs3 S3 N3=>?_;obtain⟨⟨h₃,nK,rfl⟩,kp,cK,x0,rfl,hn,o,vs,mA,t,ho,hc,hd,I,hm,yb,hv⟩:=S3;obtain⟨x1,o1,vs1,T,oT,ts,e1,n1,n2,n3,n4,n5,n6,n7⟩:=N3;cases e1;dsimp only at kp ho I n1 n5 hv
  nomatch ho,n1
  nomatch hd,n2
  have qk:s2.heap.get? T=none:=by
   rcases hv with q | ⟨T',_,_,q,_,q2,_⟩
   ·nomatch n3,q
   ·nomatch n3,q;show q2
  have bV:bz.StaysIn s2.heap:=at2.2.1.stays;have lR:bz.StaysIn h₃:=λb ob hb=>by
   obtain⟨o',e',_,q⟩:=kp b ob (bV b ob hb);rcases q with rfl | ⟨_,q⟩
   ·show e'
   ·nomatch hb,q
  obtain⟨C1,C2⟩:=E6 c.cx;obtain⟨hk,L',hf,N1,NB,mm,BD⟩:=cK f.env (.head _)
  nomatch ZD,hf
  have iz:f.env.scope.kind=.function:=by rw[c.st.se];show c.st.kind
  have hl:f.env.kindOf (nm x)=some .local:=by unfold Env.kindOf;rw[c.st.se];show jY
  have eJ:(f.env.scope.kind == .class || (f.env.scope.kind == .module && f.env.locals != f.env.globals))=false:=by rw[iz];rfl
  exact wpAny_handleBy_cons (codeAny_handlers_test (uR (s:={ s2 with heap:=h₃,toks:=nK}) c.cx c.st lR h2 ?_)) (by intro q;cases q)
  exact wpAny_excMatches_sub_self (lR _ _ C1) ho hc (by decide +kernel) ?_;dsimp only;rw[if_pos rfl];dsimp only;exact codeAny_handlers_suite_as (wpAny_setFlight_none ho hd n3 n5 n6 (Array.getElem?_eq_some_iff.mp n7).1 ?_);have other:∀b,b≠T->(h₃.update T (Obj.mapFields (·.setIfInBounds 3 Value.none))).get? b=h₃.get? b:=λb hb=>Heap.get?_update_other _ _ (aaa hb);generalize hg:h₃.update T (Obj.mapFields (·.setIfInBounds 3 Value.none))=g at other;have kg:Kept bz Y' s2.heap g:=λb ob hb=>by
   obtain⟨o',e',u⟩:=kp b ob hb;show⟨o',(other b λq=>by nomatch q,qk,hb).trans e',u⟩
  have N2:g.Ns f.env.locals mm:=by
   obtain⟨oL,es,ep,q1,q2,q3⟩:=BD;obtain⟨o',e',u,_⟩:=kg _ _ q1;show⟨o',es,ep,e',u.data.trans q2,q3⟩
  have Ff:g.get? x0=some o:=(other x0 (aaa n4)).trans ho;have ZE:∀d,o.dict=some d->d≠x0/\h₃.Ns1 d mA:=λd gW=>by
   obtain⟨o2,e2,_,_,r2⟩:=I
   nomatch ho,e2
   rcases r2 with⟨a,_⟩ | ⟨d2,a,b2,c2⟩
   ·nomatch gW,a
   ·nomatch gW,a;show⟨b2,c2⟩
  have Ig:g.Inst x0 38 mA:=EX I ho Ff rfl (λc q=>by nomatch hd,q) rfl λd od gW nD=>(other d λq=>by
   obtain⟨_,o3,es,ep,f1,f2,_⟩:=ZE d gW
   nomatch q,n5,f1
   nomatch n6,f2).trans nD
  have ZF:x0≠f.env.locals:=λq=>by
   obtain⟨oL,es,ep,q1,q2,q3⟩:=BD;rw[<-q,hn] at q1;cases q1
  have N4:At J w bz nil Y0 s0 Y' { s2 with heap:=g,toks:=nK}:=at2.kept kg
  have ZG:=(Np at2.2.1 kg).2;exact wpAny_storeName_local (s:={ s2 with heap:=g,toks:=nK}) hl N2 (λh₄ Fg k4=>?_) eJ
  have N5:s0.heap.get? f.env.locals=none:=nw.loc;obtain⟨oL,es,ep,hL,N6,hLr⟩:=id N2;have yi:¬ aD Y' g f.env.locals:=λq=>NB ((ZG _).mp q);have xX:=u6 N4.2.1 hL (.inl ⟨es,ep,N6⟩) yi;obtain⟨N7,ZH⟩:=N4.Bo (s:={ s2 with heap:=g,toks:=nK}) (tk:=nK+1) hL yi N5 N1 xX (λzz=>by obtain⟨us,q,t,e1,_⟩:=zz;nomatch N6,e1) k4.extBut
  have I4:h₄.Inst x0 38 mA:=EX Ig Ff ((k4.2 x0 ZF).trans Ff) rfl (λc q=>by nomatch hd,q) rfl λd od gW nD=>(k4.2 d λq=>by
   have:=yb d gW;obtain⟨oL,es,ep,q1,q2,q3⟩:=BD;rw[q] at this
   nomatch this,q1).trans nD
  have hH:eE h₄ f.env (nm x) (.ref x0):=.inl ⟨hl,_,Fg,if_pos rfl⟩;have lS:bz.StaysIn h₄:=N7.2.1.stays;exact wpAny_execs_cons (wpAny_Return_some (Attribute_any_ (hH.eval (s:={ s2 with heap:=h₄,toks:=nK+1}) c.st ?_) (by rw[arm_eval_Attribute];rfl)))
  exact Zb PySem.F.attrBase_Exception (lS _ _ C1) (C2.keeps lS) (Zj _) (Zk _) (NK _) NM I4 hm rfl ?_;dsimp only;exact wpAny_nameGoes hl Fg eJ λh₅ m5 ns5 k5=>?_;obtain⟨oL4,es4,ep4,ZI,Fi,_⟩:=id Fg;obtain⟨ZJ,_⟩:=N7.Bo (s:={ s2 with heap:=h₄,toks:=nK+1}) (tk:=nK+1+1+1) ZI ZH N5 N1 xX (λzz=>by obtain⟨us,q,t,e1,_⟩:=zz;nomatch Fi,e1) k5.extBut
  show⟨.str k,Y',.str k t,hX,ZJ⟩
set_option tactic.hygienic true
def ZK:SE .stop:=by
 intros;intro n c ex ak Q X hw;show hw.elim
def N8{l:List E}:SE (.jq l):=by
 intros;intro n c ex ak Q X hw;show hw.elim
def ZL{a:E}:SB (.isTrue a):=by
 intros;intro n c ex ak K X hw;show hw.elim
def AE(e:E):Prop:=SE e/\SB e/\xm e
theorem ZM{e:E}(he:SE e)(hp:∀sc ex,ay sc e ex=true->plainT ex=true)(hb:∀W m K X Y,wB W e m (wE W e m) K X Y=wE W e m (λv s=>truth v λt=>K t s) X Y)(hs:∀W m K X Y,m8 W e m (wE W e m) K X Y=wE W e m (m7 K) X Y):AE e:=⟨he,KQ he hp hb,Mf he hs⟩
theorem sJ{e:E}(he:SE e)(hb:SB e)(hs:∀W m K X Y,m8 W e m (wE W e m) K X Y=wE W e m (m7 K) X Y):AE e:=⟨he,hb,Mf he hs⟩
def N9:E->Bool
 | .not _=>false
 | .fG _ _ _=>false
 | .and _ _=>false
 | .or _ _=>false
 | .cmp _ _ _=>false
 | .gM _ _ _ _ _=>false
 | .isTrue _=>false
 | .jq _=>false
 |_=>true
def ZN{e:E}(hp:N9 e=true)(sc:Scope)(ex:Expr)(h:ay sc e ex=true):plainT ex=true:=by
 cases e<;>first
  |show(aZ hp).elim
  |show(aZ h).elim
  |show fX h λ_ _ _ _=>rfl
  |show bx h λ_ _ _=>rfl
  |show fY h λ_ _ _ _=>rfl
  |show wC h λ_ _ _ _ _=>rfl
  |show wF h λ_ _ _=>rfl
  |show lC h λ_ _ _ _=>rfl
  |show wD h λ_ _ _ _=>rfl
  |show iw h λ_ _ _ _=>rfl
  |show cG h λ_ _ _ _ _=>rfl
  |show rG h λ_ _ _ _ _=>rfl
  |show(kK.mp h).elim (λh=>fX h λ_ _ _ _=>rfl) λh=>oB h λ_ _ _ h=>cH h λh _=>gT h rfl
def d8{e:E}(he:SE e)(hp:N9 e=true:=by rfl):AE e:=by
 exact ZM he (ZN hp) ?_ ?_
 ·clear he;cases e<;>first | show(aZ hp).elim | show λ_ _ _ _ _=>rfl
 ·clear he;cases e<;>first | show(aZ hp).elim | show λ_ _ _ _ _=>rfl
mutual
theorem aQ:∀e:E,AE e
 | .stop=>d8 ZK
 | .cN=>d8 TB
 | .cB b=>d8 (TC b)
 | .cI i=>d8 (TF i)
 | .cS k=>d8 (KH k)
 | .v x=>d8 (Tz x)
 | .glob a=>d8 (TJ a)
 | .attr e k=>d8 (Uc (aQ e).1)
 | .ar o a b=>d8 (Uj (aQ a).1 (aQ b).1)
 | .not e=>sJ (TP (aQ e).1) (TQ (aQ e).2.1) (λ_ _ _ _ _=>rfl)
 | .fG c a b=>sJ (TS (aQ c).2.1 (aQ a).1 (aQ b).1) (TV (aQ c).2.1 (aQ a).2.1 (aQ b).2.1) (λ_ _ _ _ _=>rfl)
 | .and a b=>sJ (TX (aQ a).1 (aQ b).1) (T1 (aQ a).2.1 (aQ b).2.1) (λ_ _ _ _ _=>rfl)
 | .or a b=>sJ (TY (aQ a).1 (aQ b).1) (T3 (aQ a).2.1 (aQ b).2.1) (λ_ _ _ _ _=>rfl)
 | .cmp o a b=>sJ (Uv (aQ a).1 (aQ b).1) (Uw (aQ a).1 (aQ b).1) (λ_ _ _ _ _=>rfl)
 | .gM o p a b c=>sJ (Ux (aQ a).1 (aQ b).1 (aQ c).1) (Uy (aQ a).1 (aQ b).1 (aQ c).1) (λ_ _ _ _ _=>rfl)
 | .list l=>d8 (T6 (j0 l).1)
 | .tup l=>d8 (T7 (j0 l).1)
 | .dH=>d8 T9
 | .idx e i=>d8 (UC (aQ e).1 (aQ i).1)
 | .gN e lo hi=>d8 (UH (aQ e).1 (Oa lo) (Oa hi))
 | .jO e=>d8 (UJ (aQ e).1)
 | .call f l=>d8 (UO (j0 l).1)
 | .new c l=>d8 (U4 (j0 l).1)
 | .aJ e k l=>d8 (UX (aQ e).1 (j0 l).1)
 | .bi b l=>d8 (WB (j0 l).1)
 | .lm m e l=>d8 (Vw (aQ e).1 (j0 l).1)
 | .items e=>d8 (Wg (aQ e).1)
 | .isTrue e=>sJ (WK (aQ e).1) ZL (λ_ _ _ _ _=>rfl)
 | .ru e=>d8 (WD (aQ e).1)
 | .dI f l ai b aq=>d8 (Vs λe he=>((j0 l).2 e he).1)
 | .gy x l=>d8 (U6 (j0 l).1)
 | .comp e t src ifs=>d8 (X9 (aQ e).1 (aQ src).2.2 λe he=>((j0 ifs).2 e he).2.1)
 | .jq l=>⟨N8,KQ N8 (λ_ _ h=>cG h λ_ _ _ _ _=>rfl) (λ_ _ _ _ _=>rfl),WT (j0 l).1⟩
theorem j0:∀l:List E,iM l/\∀e∈l,AE e
 | []=>⟨KN,λ_ h=>by cases h⟩
 |e::l=>⟨TK (aQ e).1 (j0 l).1,λx h=>by
  rcases aO.mp h with q | q
  ·rw[q];show aQ e
  ·show(j0 l).2 x q⟩
theorem Oa:∀o:Option E,SO o
 |none=>trivial
 |some e=>(aQ e).1
end
theorem Ob:∀t:Tg,ST t
 | .v x=>W3 x
 | .attr e k=>W4 (aQ e).1
 | .idx e i=>W5 (aQ e).1 (aQ i).1
 | .gN e lo hi=>W6 (aQ e).1 (aQ lo).1 (aQ hi).1
theorem Oc:∀l:List Tg,ve l
 | []=>W8
 |t::l=>W9 (Ob t) (Oc l)
def ZO:SS .stop:=by
 intros;intro n c nw z ak N R X hw;show hw.elim
mutual
theorem ZP:∀a:Sm,SS a
 | .stop=>ZO
 | .asg t e=>Xh (Ob t) (aQ e).1
 | .gO ts e=>Xo (Oc ts) (aQ e).1
 | .ex e=>Xq (aQ e).1
 | .iff c a b=>Xr (aQ c).2.1 (sM a) (sM b)
 | .fH c b=>Xz (aQ c).2.1 (sM b)
 | .aS t e b=>XJ (aQ e).2.2 (sM b)
 | .ret e=>Xs (aQ e).1
 | .raise k e=>Zw (aQ e).1
 | .jP b x=>Zz (sM b)
theorem sM:∀l:List Sm,lN l
 | []=>Xe
 |a::l=>Xf (ZP a) (sM l)
end
def aig{cs:Env}{k:Nat}(h:k∈cs.map (·.1)):∃v,lk cs k=some v:=by
 induction cs with
 |nil=>cases h
 |cons p r ih=>
  obtain⟨j,u⟩:=p;show ∃v,(match Nat.beq j k with | true=>some u | false=>lk r k)=some v
  cases q:Nat.beq j k with
  |true=>show⟨u,rfl⟩
  |false=>
   rcases aO.mp h with e | e
   ·rewrite [e] at q;simp at q
   ·show ih e
def ZQ:∀(l:List (Str×Value)),(l.map (·.1)).Nodup->∀z v,l.lookup z=some v->l.reverse.lookup z=some v:=by
 intro l;induction l with
 |nil=>intro _ z v h;cases h
 |cons a r ih=>
  obtain⟨n1,v1⟩:=a;intro qb z v h
  rewrite [dU,bS] at qb
  rw[List.reverse_cons,Yq]
  rewrite [lc] at h
  cases e:z == n1 with
  |true=>
   rewrite [e] at h
   have:r.reverse.lookup z=none:=by
    cases hh:r.reverse.lookup z with
    |none=>rfl
    |some u=>
     have:(z,u)∈r.reverse:=mem_of_lookup hh;show absurd (bJ.mpr ⟨(z,u),List.mem_reverse.mp this,bq.mp e⟩) qb.1
   rw[this];dsimp only;rw[e,if_pos rfl];show h
  |false=>rewrite [e] at h;rw[ih qb.2 z v h]
def ZR{F:bu}(cx:Cx w bz){k n:Nat}(wo:A1 J w bz F (Wn k) n)(A:Around)(f:Act)(fa:Nat)(p:List Nat)(b:E)(cs:Env)(vs:List Value)(xs:List V)(Q:V->So->Prop)(Y0:So)(s0:Shared)(Y:So)(s:Shared)(rm:kW A f (n+2))(cK:lH bz Y s.heap f.fl)
  (at_:At J w bz nil Y0 s0 Y s) (eJ:iy bz Y s.heap fa p b cs) (hv:aF vs xs) (hw:(Wn (k+1)).iY p b cs xs Q Y):codeAny (model J w) A (.call (.ref fa) ⟨vs,[]⟩) (λres s'=>match res with
   | .ok (.ret v)=>GE J w bz Y0 s0 Q v s'
   |_=>False) s:=by
 obtain⟨q1,hw⟩:=p8 hw;obtain⟨q2,hw⟩:=p8 hw
 ·skip
  obtain⟨ar,bo,inner,c',eH,cl,q,pm,sc,cps,e1,e2,e3,e4,e5,e6,⟨e7,ZS,ZT⟩,e8⟩:=eJ;have LF:=LJ e5;obtain⟨b1,b2,b3⟩:=Ng LF.Ec;obtain⟨a1,a2,a3,a4⟩:=Nf LF.plain;have stays:=at_.2.1.stays;have I:=at_.2.1;have hl:xs.length=p.length:=nq q1;have ZU:(ar.args.map (·.arg))=p.map nm:=M9 LF.kY;have je:∀y∈inner.names,y.2≠.cell:=λy hy e=>by
   rcases LF.i9 y hy with⟨z,_⟩ | ⟨z,_⟩ | z<;>rw[z] at e<;>cases e
  have nd:p.Nodup:=by
   rewrite [ba] at q2
   have h1:=nq q2.2;rcases p with _ | ⟨y,_ | _⟩<;>simp at h1 ⊢
  ·have bC:(p.map nm).Nodup:=Bz nd;have Bt:vs.length=(p.map nm).length:=by rw[dT,hv.len,hl]
   exact kla_callFunE (by rw[EP];have:=rm.depth;show⟨"A>1000,A+4*(B+2)+10.900",this⟩) e1 rfl b3 b2 rfl e3 ?_;rw[bind_none (fd:=kla_fn "<lambda>" q ar bo inner cl pm (.ref c') eH) a1 ZU a2 a3 a4 rfl Bt bC];exact aL (wpAny_newFunctionEnv (scope:=inner) je (λy hy=>?_) (λh₁ iA nI=>⟨(cx.lim.keeps stays).fresh _ nI,kla_codeExpr ?_⟩) b1)
   ·obtain⟨i,hi,e⟩:=bJ.mp (List.of_mem_zip (show(y.1,y.2)∈_ from hy)).1;rw[<-e];show LF.pl i hi
   ·show wpAny (model J w) (A.deeper (envX q inner s.heap.objs.size fa (.ref c') cl)) (eval bo (envX q inner s.heap.objs.size fa (.ref c') cl)) _ _ _;generalize he:envX q inner s.heap.objs.size fa (.ref c') cl=env;have eS:env.scope=inner:=congrArg PySem.Env.scope he.symm;have eL:env.locals=s.heap.objs.size:=congrArg PySem.Env.locals he.symm;have eG:env.globals=mainGlobals:=congrArg PySem.Env.globals he.symm;have eB:env.builtins=builtinsNs:=congrArg PySem.Env.builtins he.symm;have eC:env.cells=cl:=congrArg PySem.Env.cells he.symm;have eF:env.frame=some s.heap.objs.size:=congrArg PySem.Env.frame he.symm;clear he;have kd:∀y,env.kindOf y=inner.names.lookup y:=λy=>by unfold Env.kindOf;rw[eS]
    have gr:Grows s.heap h₁:=λb ob e=>nI.extBut b ob (fU (dK e)) (cf _ e);have S:Step nil Y Y s.heap h₁:=.grow I gr;have bI:∀b,s.heap.get? b=none->bz.get? b=none/\Y b=none/\¬ aD Y h₁ b:=λb hb=>by
     exact⟨?_,I.unset hb,uW I (λb o e=>⟨o,gr b o e,λ_ _ _=>rfl⟩) hb⟩;cases q:bz.get? b with
     |none=>rfl
     |some o=>have:=stays b o q;nomatch hb,this
    have nJ:s.heap.get? s.heap.objs.size=none:=i5 _;have r5:((p.map nm).zip vs).map (·.1)=p.map nm:=by
     rw[List.map_fst_zip];rw[Bt];show ip _
    have c:Cn J w bz F (Wn k) (A.deeper env) ⟨env,env::f.fl⟩ inner (ups p xs cs) Y s Y { s with heap:=h₁,toks:=s.toks+((p.map nm).zip vs).length} n:=by
     exact⟨cx,wo,⟨rm.handled,Around.frames_deeper rm.frames,?_,?_⟩,⟨eS,b1,eG,eB,.inl λx hx=>je _ (mem_lookup hx) rfl,λx y c h1 h2=>by rewrite [eC] at h1 h2;show ZT x y c h1 h2,λy hy=>?_⟩,⟨⟨_,by rw[eL];show iA⟩,by rw[eL];show(bI _ nJ).2.2,by rw[eL];show(bI _ nJ).1,λy cc hc=>?_,λy v EV hy=>?_,λenv he=>?_⟩,(At.refl I).grow gr⟩
     ·show A.depth+1+4 * (n+1)+10<=900;have:=rm.depth;show⟨"A+1+4*(B+1)+10.900,A+4*(B+2)+10.900",this⟩
     ·show A.units+3+40 * (n+1)+100<=9000;have:=rm.units;show⟨"A+3+40*(B+1)+100.9000,A+40*(B+2)+100.9000",this⟩
     ·rcases hy with hy | hy
      ·show absurd rfl (je _ (mem_lookup hy))
      ·rcases LF.i9 _ (mem_lookup hy) with⟨z,_⟩ | ⟨_,⟨i,hi,z⟩,_⟩ | z
       ·cases z
       ·obtain⟨v,hv⟩:=aig (cs:=cs) (k:=i) (e7 ▸ hi);obtain⟨cc,rv,z1,_⟩:=e8 i v hv;dsimp only at z;rw[<-z,eC];show⟨cc,z1⟩
       ·cases z
     ·rewrite [eC] at hc
      obtain⟨i,v,rfl,hv⟩:=ZS y cc hc;obtain⟨c2,rv,z1,⟨o,z2,Fj⟩,z3,z4,z5⟩:=e8 i v hv;have:c2=cc:=dW (z1.symm.trans hc);subst this;show⟨⟨_,o,gr _ _ z2,Fj⟩,λm=>z4 ((aD.grow I gr).mp m),z5⟩
     ·rcases Nk (bz:=bz) (Y:=Y) (h:=s.heap) nd hv.vc hl.symm hy with⟨h1,rv,h2,h3⟩ | ⟨_,h2⟩
      ·exact VC.has S h3 (.inl ⟨(kd _).trans (LF.pl y h1),_,by rw[eL];show iA,?_⟩);show ZQ _ (by rw[r5];show bC) _ _ h2
      ·obtain⟨c2,rv,z1,⟨o,z2,Fj⟩,z3,z4,z5⟩:=e8 y v h2;have ZV:y∈cps:=e7 ▸ LK h2;show VC.has (h:=s.heap) S z3.vc (.inr ⟨.inr ((kd _).trans (LF.cps y ZV)),c2,by rw[eC];show z1,o,gr _ _ z2,Fj⟩)
     ·rcases aO.mp he with e | he
      ·rw[e];show⟨by rw[eS,b1];decide,s.heap.objs.size,eF,(bI _ nJ).1,(bI _ nJ).2.2,_,iA⟩
      ·show cK.step S env he
    exact bB ((aQ b).1 c e6 hw) (λv s' zz=>by obtain⟨y,Y',h1,h2,h3⟩:=zz;show⟨y,Y',h1,h2,at_.trans h3⟩) λ_ _ q=>q.no
theorem Fp(cx:Cx w bz):∀k:Nat,A1 J w bz (wY bz) (Wn k) (2 * k)
 |0=>⟨rfl,rfl,λc k f h=>M4 h,λc f h=>M5 h,λi xs Q X Y h=>h.elim,λi r hr A f vs xs Q X Y0 s0 Y s rm cK at_ hv hw=>hw.elim,λA f fa p b cs vs xs Q Y0 s0 Y s rm cK at_ hc hv hw=>hw.elim⟩
 |k+1=>⟨rfl,rfl,λc k f h=>M4 h,λc f h=>M5 h,λi xs Q X Y h=>by
   obtain⟨fd,hf,_⟩:=nz h;obtain⟨r,hr,_⟩:=EI DP hf;show⟨r,hr⟩,λi r hr A f vs xs Q X Y0 s0 Y s rm cK at_ hv hw=>YH cx YN sM (Fp cx k) i r hr A f vs xs Q X Y0 s0 Y s rm cK at_ hv hw,
  λA f fa p b cs vs xs Q Y0 s0 Y s rm cK at_ hc hv hw=>ZR cx (Fp cx k) A f fa p b cs vs xs Q Y0 s0 Y s rm cK at_ hc hv hw⟩
end
end Tactic
namespace Tactic
open PySem PySem.W PySem.Calls PyProof.Rows PySem.Spec Lh.Tactic
noncomputable section
def ZW(K:Nat):Prop:=∀(a:Nat) (l:List Int),a≠884->l.length<=63->(Wn K).call 0 [.ref a] (λv _=>v=.bool true) aN (put (put (λ_=>none) 884 (.tup [.str 16])) a (.cO (l.map V.int)))
def ZX(P:Params):tP.map (λa=>(s8 P default).tree.get a)=tP.map (λa=>some (dY P a)):=by kernel_rfl
def ZY(P:Params):tP.map (λa=>alive (dY P a))=tP.map (λa=>some (tabObj #[])):=by kernel_rfl
def ZZ:(tP.all λa=>Nat.blt a 1146)=true:=by decide +kernel
def Fq(P:Params){a:Nat}(h:a∈tP):(H1 P).get? a=some (tabObj #[]):=by
 have h1:=AY (ZX P) a h;have h2:=AY (ZY P) a h;have h3:a<1146:=by have:=bR.mp ZZ a h;simp[Nat.blt] at this;show⟨"A>1146,A.1145",this⟩
 show(abs_get (t:=(s8 P default).tree) (n:=1146) (life:=(s8 P default).life) h3 h1).trans h2
def qF:Data->Array Value
 | .fields vs=>vs
 |_=>#[]
def qS:Value->Str×Tok
 | .str s t=>(s,t)
 |_=>default
def qI:Value->Int×Tok
 | .int s t=>(s,t)
 |_=>default
def qB:Value->Bool
 | .bool b=>b
 |_=>true
def qV(P:Params)(p:FR×Nat)(i:Nat):Value:=(qF (dY P p.1.cd).data).getD i .none
def Z0(P:Params):((fT.zip tP).map λp=>((dY P p.1.cd).cls,(dY P p.1.cd).data,(qF (dY P p.1.cd).data)[11]?,qV P p 11,qV P p 18,qV P p 7,qV P p 9,qV P p 10,Nat.beq p.1.cd p.2))=(fT.zip tP).map λp=>(.type "code",.fields (qF (dY P p.1.cd).data),some (.ref p.2),.ref p.2,.str (qS (qV P p 18)).1 (qS (qV P p 18)).2,.int (qI (qV P p 7)).1 (qI (qV P p 7)).2,.bool (qB (qV P p 9)),.int (qI (qV P p 10)).1 (qI (qV P p 10)).2,false):=by kernel_rfl
def Z1(P:Params):dY P 884=T [S "boundary" 1396]:=by kernel_rfl
def Z3:kA.contains 884=true:=by decide +kernel
def Z4:kR "law"=some (.ref 1145):=by kernel_rfl
theorem Z5:∃r,fT[0]?=some r/\r.a=1145:=⟨_,rfl,rfl⟩
def qD:Data->Array DictEntry×Nat
 | .dict e p=>(e,p)
 |_=>default
def Z6(P:Params):∃o es ep,(H1 P).get? 1=some o/\o.data=.dict es ep:=by
 have e:((s8 P default).tree.get 1).map (λo=>(alive o).map (·.data))=some (some (.dict (qD ((((s8 P default).tree.get 1).bind alive).getD default).data).1 (qD ((((s8 P default).tree.get 1).bind alive).getD default).data).2)):=by kernel_rfl
 obtain⟨o,h1,h2⟩:=wh.mp e;obtain⟨ob,h3,h4⟩:=wh.mp h2;show⟨ob,_,_,(abs_get (t:=(s8 P default).tree) (n:=1146) (life:=(s8 P default).life) (by decide) h1).trans h3,h4⟩
def ints_of{R:WRecords}{cl:Str->Option Addr}{h:Heap}:∀{xs:List WData}{vs:List Value}{as:List Addr},ReadsAllW R cl h vs xs as->WShape.hasItems R xs .int=true->∃l:List Int,aF vs (l.map V.int)/\l.length=xs.length:=by
 intro zl;induction zl with
 |nil=>
  intro vs as hr _;cases hr;show⟨[],.nil,rfl⟩
 |cons d xs ih=>
  intro vs as hr h;have h':(WShape.has R d .int && WShape.hasItems R xs .int)=true:=h
  rewrite [ba] at h'
  cases hr with
  |cons a b=>
   obtain⟨l,h1,h2⟩:=ih b h'.2;obtain⟨i,rfl⟩:=hasW_int h'.1;cases a;show⟨i::l,.cons (.int _ _) h1,by simp[h2]⟩
def Fs{t:Nat×Nat×String}(h:t∈tabs):t.2.1∈tP/\∃r∈fT,(r,t.2.1)∈fT.zip tP/\t.1=r.cd/\t.2.2=r.ql:=by
 unfold tabs at h;obtain⟨q,hq,rfl⟩:=bJ.mp h;show⟨(List.of_mem_zip hq).2,q.1,(List.of_mem_zip hq).1,hq,rfl,rfl⟩
def Z7{a:Nat}(h:a∈tP):wV a:=by
 obtain⟨i,hi,e⟩:=List.getElem_of_mem h;have hz:i<(fT.zip tP).length:=by rw[show(fT.zip tP).length=tP.length by decide +kernel];show hi
 exact⟨((fT.zip tP)[i].1.cd,(fT.zip tP)[i].2,(fT.zip tP)[i].1.ql),bJ.mpr ⟨(fT.zip tP)[i],List.getElem_mem hz,rfl⟩,?_⟩;show a=(fT.zip tP)[i].2;rw[List.getElem_zip,e]
def Z8:nm 16=Str.ofString "boundary":=by kernel_rfl
def Z9(xs:List WData):cC.row.toRowW.claim.post [.list xs] (.bool true) [.list xs]=true:=by
 show(WShape.has cC.row.toRowW.records (.bool true) .bool && WTm.holds cC.row.toRowW.records (.eq .res (.lit (.bool true))) { args:=[.list xs],res:=some (.bool true),after:=[.list xs]})=true
 rw[ba];exact⟨by kernel_rfl,?_⟩;unfold WTm.holds;rw[w_eq_bool (w_res rfl) w_lit];rfl
def join{K:Nat}(hK:K<=60)(hp:ZW K):IX:=by
 intro w s0 s1 mg mb G Yy a o pm cd doc dV kV ha hd vi yb hmg yj args vals as Ft hlay sP Od has;have oZ:∀(b:Nat) (ob:Obj),s1.heap.get? b=some ob->ob≠tabObj #[]->b∉tP:=λb ob e ne m=>by
  have:=Yy _ _ (Fq w.params m)
  nomatch e,this;show ne rfl
 have st:(hideAll s1.heap tP).StaysIn s1.heap:=λb ob e=>of_hideAll _ e;have xJ:∀b ob,s1.heap.get? b=some ob->ob≠tabObj #[]->(hideAll s1.heap tP).get? b=some ob:=λb ob e ne=>hideAll_get _ e (oZ b ob e ne);have jA:∀L m,s1.heap.Ns L m->(hideAll s1.heap tP).Ns L m:=λL m zz=>by obtain⟨o,es,ep,e,hd,r⟩:=zz;show⟨o,es,ep,xJ _ _ e (λq=>by nomatch q,hd),hd,r⟩
 have BG:(KF w.params).In (hideAll s1.heap tP):=λb ob e=>by
  obtain⟨h1,rfl⟩:=S8 e;exact hideAll_get _ (Yy _ _ (S9 w.params h1)) λm=>?_;have:=bR.mp Ti b h1;have h2:(tP.any λp=>Nat.beq p b)=true:=List.any_eq_true.mpr ⟨b,m,by simp⟩
  nomatch h2,this
 have cx:Cx w (hideAll s1.heap tP):=by
  exact⟨BG,?_,⟨mb,jA _ _ G.T.b,G.T.builtins⟩,⟨mg,jA _ _ G.T.g,?_⟩,λt ht=>?_,?_⟩
  ·obtain⟨mc,h1,h2⟩:=G.T.nolimit;show⟨mc,jA _ _ h1,h2⟩
  ·obtain⟨bm,ob,h1,h2,h3,h4,h5,h6⟩:=G.T.bmain;show⟨bm,ob,h1,h2,xJ _ _ h3 (λq=>by nomatch q,h6),h4,h5,h6⟩
  ·obtain⟨h1,r,hr,hz,h2,h3⟩:=Fs ht;have hk:=List.map_inj_left.mp (Z0 w.params) _ hz;have j8:=bR.mp Kx r hr
   rewrite [ba] at j8
   rw[h2];have g:∀{β:Type} (f:_->β),f _=f _:=λf=>congrArg f hk
   show⟨_,_,_,_,_,_,_,_,_,BG _ _ (qt (f:=dY w.params) (List.contains_iff_mem.mp j8.2)),g (·.1),g (·.2.1),g (·.2.2.1),g (·.2.2.2.1),g (·.2.2.2.2.1),g (·.2.2.2.2.2.1),g (·.2.2.2.2.2.2.1),g (·.2.2.2.2.2.2.2.1),Nat.ne_of_beq_eq_false (g (·.2.2.2.2.2.2.2.2))⟩
  ·obtain⟨o,es,ep,h1,h2⟩:=Z6 w.params;show⟨o,xJ _ _ (Yy _ _ h1) λq=>by nomatch q,h2⟩
 have qw:=pre_splitW Ft;obtain⟨d,rst,rfl,oU,hd2⟩:=hasAllW_cons qw.1;obtain rfl:=hasAllW_nil hd2;obtain⟨xs,rfl,fM⟩:=hasW_list oU;have hlen:xs.length<=63:=by
  have h2:=qw.2;have jX:WTm.holds cC.row.toRowW.records (.and (.not (.lt (.lit (.int 63)) (.len (.arg 0)))) (.lit (.bool true))) { args:=[.list xs]}=true:=h2
  have e1:(WTm.arg 0).value cC.row.toRowW.records { args:=[.list xs]}=some (.list xs):=w_arg rfl
  have e2:(WTm.len (.arg 0)).value cC.row.toRowW.records { args:=[.list xs]}=some (.int xs.length):=by simp[WTm.value]
  have e3:=w_and (w_not (w_lt (w_lit (R:=cC.row.toRowW.records) (e:={ args:=[.list xs]}) (d:=.int 63)) e2)) (w_lit (R:=cC.row.toRowW.records) (e:={ args:=[.list xs]}) (d:=.bool true))
  unfold WTm.holds at jX
  rewrite [e3] at jX
  by_cases q:(63:Int)<xs.length
  ·simp[q] at jX
  ·show⟨"A.63,!63<'A",q⟩
 obtain⟨sa,rV,vs,n,Oe,h1,h2,h3,h4,hv⟩:∃sa rV vs n Oe,s1.heap.get? sa=some rV/\rV.cls=.type "list"/\rV.data=.seq vs n/\ReadsAllW cC.row.toRowW.records (classAt s0.heap) s1.heap vs.toList xs Oe/\vals=[.ref sa]:=by
  cases sP with
  |cons a b=>
   cases b
   cases a with
   |list g1 g2 g3 g4=>show⟨_,_,_,_,_,g1,g2,g3,g4,rfl⟩
 subst hv;obtain⟨l,Bn,yk⟩:=ints_of h4 fM;have yl:s1.heap.get? 884=some (T [S "boundary" 1396]):=by
  have:=st _ _ (BG _ _ (qt (f:=dY w.params) (List.contains_iff_mem.mp Z3)));rw[this,Z1]
 have au:sa≠884:=λq=>by
  nomatch q,yl,h1
  have jX:Value.type "tuple"=Value.type "list":=h2;injection jX with h;show absurd h (by decide)
 have hY:∀b o,put (put (λ_=>none) 884 (.tup [.str 16])) sa (.cO (l.map V.int)) b=some o->(b=sa/\o=.cO (l.map V.int))\/(b=884/\o=.tup [.str 16]):=λb o e=>by
  rcases hO e with⟨rfl,rfl⟩ | ⟨_,e⟩
  ·show .inl ⟨rfl,rfl⟩
  ·rcases hO e with⟨rfl,rfl⟩ | ⟨_,e⟩
   ·show .inr ⟨rfl,rfl⟩
   ·cases e
 have lG:∀b dd,¬ bj (put (put (λ_=>none) 884 (.tup [.str 16])) sa (.cO (l.map V.int))) s1.heap b dd:=λb dd ⟨c,fs,ox,e,_⟩=>by
  rcases hY _ _ e with⟨_,e⟩ | ⟨_,e⟩<;>cases e
 have inv:Inv cC.row.toRowW.prog w (hideAll s1.heap tP) (put (put (λ_=>none) 884 (.tup [.str 16])) sa (.cO (l.map V.int))) s1.heap:=by
  exact⟨st,λb q e=>?_,λb ob e m=>?_,λb dd x=>absurd x (lG b dd),λb c dd x=>absurd x (lG b dd),λt ht=>?_⟩
  ·rcases hY _ _ e with⟨rfl,rfl⟩ | ⟨rfl,rfl⟩
   ·exact .cO (vs:=vs.toList) ⟨rV,h1,h2,n,by rw[h3]⟩ Bn (by rw[dT];show⟨"A.200000,B.63,A~B",hlen,yk⟩)
   ·exact .tup (vs:=[S "boundary" 1396]) ⟨_,yl,rfl,0,rfl⟩ (.cons ?_ .nil) (by decide);rw[show S "boundary" 1396=.str (nm 16) 1396 by rw[Z8]];show .str 16 1396
  ·rcases m with⟨q,e',m⟩ | ⟨z,x⟩ | ⟨t,ht,rfl⟩
   ·rcases hY _ _ e' with⟨_,rfl⟩ | ⟨_,rfl⟩<;>cases m
   ·show lG _ _ x
   ·nomatch hideAll_none _ (Fs ht).1,e
  ·show⟨#[],Yy _ _ (Fq w.params (Fs ht).1),trivial,λpos cv e=>by cases e⟩
 have nL:a=1145:=by
  have:=mg_of BG (jA _ _ G.T.g) (Kz Z4);have h':mg ("law":Str)=some (.ref a):=hmg
  nomatch this,h';rfl
 subst nL;obtain⟨r0,sR,BH⟩:=Z5;have rm:kW callerA ⟨default,[]⟩ (2 * K):=⟨rfl,rfl,by show 1+300+4 * (2 * K)+10<=900;show⟨"1+300+4*2*A+10.900,A.60;1,8",hK⟩,by show 4+40 * (2 * K)+100<=9000;show⟨"4+40*2*A+100.9000,A.60;1,80",hK⟩⟩;have main:=(Fp (J:=cC.row.toRowW.prog) cx K).call 0 r0 sR callerA ⟨default,[]⟩ [.ref sa] [.ref sa] (λv _=>v=.bool true) aN _ s1 _ s1 rm (λe he=>by cases he) (.refl inv) (.cons (.ref _) .nil) (hp sa l au ⟨"A.63,B.63,A~B",hlen,yk⟩)
 rewrite [BH] at main
 exact wpAny_call (codeAny_mono main λres s' z=>?_);rcases res with e | (v | _ | _ | _)
 ·show z.no
 ·show z.elim
 ·show z.elim
 ·show z.elim
 ·obtain⟨x,Y',q1,rfl,q3⟩:=z;cases q1;obtain⟨⟨h',tk,e⟩,I',S'⟩:=q3;exact⟨.inl ⟨.bool true,.bool true,[],rfl,λcls=>rfl,.bool true,Z9 xs,λ_=>⟨.nil,λa ha=>by cases ha⟩⟩,⟨λb ob hb=>?_,λb ob hb=>S'.kp b ob hb⟩,by rw[e],.of_eq (by rw[e];show yj)⟩;by_cases hq:b∈tP
  ·have h0:=Yy _ _ (Fq w.params hq)
   nomatch hb,h0
   obtain⟨t,ht,rfl⟩:=Z7 hq;obtain⟨ps,g1,_,_⟩:=I'.tab t ht;exact .inr (.inl ⟨?_,rfl,#[],ps,rfl,by rw[g1];simp⟩);obtain⟨oc,vc,f1,f2,f3,f4,f5,f6,f7,f8,f9,kN,nh,_⟩:=(cx.head t ht).keeps st;show⟨_,_,_,f8,f9,kN,nh⟩
  ·show .inl (I'.stays b ob (hideAll_get _ hb hq))
end
end Tactic
namespace Tactic
set_option tactic.hygienic false
variable{n i j tr y x0:Nat}{Y Y1 Y2 Y3 Y':So}{fs gs:List (Nat×V)}{m:Env}{o:O}{b:Int}{v q0:V}{t l s s':T}{Q:V->So->Prop}{M:Nat->Mp}
abbrev qN(Q:V->So->Prop):Env->So->Prop:=λ_ s=>Q .none s
theorem en{k i fd vs Q X s}(hf:fns[i]?=some fd)(h:wSs (Wn k) fd.body (ups fd.ai (vs++fd.gA) []) (qN Q) Q X s)(h1:Nat.beq (vs.length+fd.gA.length) fd.ai.length=true:=by rfl)(h2:(xZ vs || Nat.beq i 26)=true:=by rfl):(Wn (k+1)).call i vs Q X s:=rE hf (wy h1 (wy h2 h))
def Og(k:Nat):(Wn k).cu=nA:=by cases k<;>rfl
def aA{a k c x}{K:V->Prop}(h:Y a=some (.inst c fs))(hk:K x)(h1:nA c k=true:=by rfl)(h2:lk fs k=some x:=by rfl):m6 (Wn n).cu (.ref a) k K Y:=by
 show I7 h (wy (by rw[Og];show h1) (rE h2 hk))
def sat{a k c v}{fs':List (Nat×V)}{K:So->Prop}(h:Y a=some (.inst c fs))(hk:K (put Y a (.inst c fs')))(h1:nA c k=true:=by rfl)(h2:Nat.blt fs.length 900=true:=by rfl)(h3:up fs k v=fs':=by rfl):jS (Wn n).cu (.ref a) k v K Y:=by
 show I7 h (wy (by rw[Og];show h1) (wy h2 (by rw[h3];show hk)))
def Oh{a b c d}(ha:Y a=some (.inst c fs))(hb:Y b=some (.inst d gs)):same Y (.ref a) (.ref b)=some (Nat.beq a b):=by
 show(bif oy (Y a) && oy (Y b) then some (Nat.beq a b) else none)=_;rw[ha,hb];rfl
def sS{a b c d}{K:Bool->Prop}(ha:Y a=some (.inst c fs))(hb:Y b=some (.inst d gs))(h1:a=b->K true)(h0:a≠b->K false):cmp .is (.ref a) (.ref b) K Y:=by
 exact rE (Oh ha hb) ?_;cases h:Nat.beq a b with
 |true=>show h1 (nq h)
 |false=>show h0 λe=>by subst e;simp at h
def Oi{a b c d}{K:Bool->Prop}(ha:Y a=some (.inst c fs))(hb:Y b=some (.inst d gs))(h1:a≠b->K true)(h0:a=b->K false):cmp .aX (.ref a) (.ref b) K Y:=by
 exact rE (Oh ha hb) ?_;cases h:Nat.beq a b with
 |true=>show h0 (nq h)
 |false=>show h1 λe=>by subst e;simp at h
def Suf(ks:List Nat)(ex:Env):Prop:=∃vs:List V,ex=ks.zip vs
theorem Suf.none(ks:List Nat):Suf ks []:=⟨[],by cases ks<;>rfl⟩
def Suf.up{k ks ex}(h:Suf (k::ks) ex):∃e,Suf ks e/\∀v,Tactic.up ex k v=(k,v)::e:=by
 obtain⟨vs,rfl⟩:=h;cases vs with
 |nil=>show⟨[],.none _,λv=>rfl⟩
 |cons u vs=>show⟨ks.zip vs,⟨vs,rfl⟩,λv=>by
   show(match Nat.beq k k with | true=>(k,v)::ks.zip vs | false=>(k,u)::Tactic.up (ks.zip vs) k v)=_
   rw[Nat.beq_refl]⟩
theorem Suf.nil{ex}(h:Suf [] ex):ex=[]:=let ⟨_,h⟩:=h;h
theorem Suf.cons{k ks e v}(h:Suf ks e):Suf (k::ks) ((k,v)::e):=let ⟨vs,h⟩:=h;⟨v::vs,by rw[h];rfl⟩
def sU{a b:V}{e:Env}(h:Nat.beq i j=false):Tactic.up ((i,a)::e) j b=(i,a)::Tactic.up e j b:=by
 show(match Nat.beq i j with | true=>(i,b)::e | false=>(i,a)::Tactic.up e j b)=_
 rw[h]
def Suf.up1{k ex v}(h:Suf [k] ex):Tactic.up ex k v=[(k,v)]:=by
 obtain⟨e,h,u⟩:=h.up;rw[u,h.nil]
def Suf.three{i j k ks ex}(h:Suf (i::j::k::ks) ex)(h1:Nat.beq i j=false:=by rfl)(h2:Nat.beq i k=false:=by rfl)(h3:Nat.beq j k=false:=by rfl):∃e,Suf ks e/\∀a b c,Tactic.up (Tactic.up (Tactic.up ex i a) j b) k c=(i,a)::(j,b)::(k,c)::e:=by
 obtain⟨e1,s,u1⟩:=h.up;obtain⟨e2,s,u2⟩:=s.up;obtain⟨e3,s,u3⟩:=s.up;show⟨e3,s,λa b c=>by rw[u1,sU h1,sU h2,u2,sU h3,u3]⟩
def Suf.four{i j k l ex a b c d}(h:Suf [i,j,k,l] ex)(h1:Nat.beq i j=false:=by rfl)(h2:Nat.beq i k=false:=by rfl)(h3:Nat.beq j k=false:=by rfl)(h4:Nat.beq i l=false:=by rfl)(h5:Nat.beq j l=false:=by rfl)(h6:Nat.beq k l=false:=by rfl):Tactic.up (Tactic.up (Tactic.up (Tactic.up ex i a) j b) k c) l d=[(i,a),(j,b),(k,c),(l,d)]:=by
 obtain⟨e,s,u⟩:=h.three h1 h2 h3;rw[u,sU h4,sU h5,sU h6,s.up1]
def lT{step:V->Env->(Env->So->Prop)->So->Prop}{G:So->Prop}{Q:Env->So->Prop}(I:List V->Env->So->Prop)(hG:∀r m s,I r m s->G s)
  (hs:∀v r m s,I (v::r) m s->∀K:Env->So->Prop,(∀m' s',I r m' s'->K m' s')->step v m K s) (he:∀m s,I [] m s->Q m s):∀(xs:List V) (m:Env) (s:So),I xs m s->loop step G Q xs m s:=by
 intro zl;induction zl with
 |nil=>
  intro m s h;show⟨hG _ _ _ h,he m s h⟩
 |cons v r ih=>
  intro m s h;show⟨hG _ _ _ h,hs v r m s h _ λm' s' h'=>ih m' s' h'⟩
def qx{step:V->Env->(Option V->So->Prop)->So->Prop}{G:So->Prop}{Q:List V->So->Prop}(I:List V->List V->So->Prop)(hG:∀r acc s,I r acc s->G s)
  (hs:∀v r acc s,I (v::r) acc s->∀K:Option V->So->Prop,(∀s',I r acc s'->K Option.none s')->(∀x s',I r (acc++[x]) s'->K (some x) s')->step v m K s) (he:∀acc s,I [] acc s->Q acc s):∀(xs acc:List V) (s:So),I xs acc s->gather step G m Q xs acc s:=by
 intro zl;induction zl with
 |nil=>
  intro acc s h;show⟨hG _ _ _ h,he acc s h⟩
 |cons v r ih=>
  intro acc s h;show⟨hG _ _ _ h,hs v r acc s h _ (λs' h'=>ih acc s' h') λx s' h'=>ih (acc++[x]) s' h'⟩
def ah{a:Nat}:put Y a o a=some o:=by show(match Nat.beq a a with | true=>some o | false=>Y a)=_;rw[Nat.beq_refl]
def ae{a b:Nat}(h:b≠a):put Y a o b=Y b:=by
 show(match Nat.beq b a with | true=>some o | false=>Y b)=_
 cases e:Nat.beq b a with
 |true=>show absurd (nq e) h
 |false=>rfl
def Fr(S:List Nat)(Y Y':So):Prop:=∀b o,Y b=some o->b∉S->Y' b=some o
theorem Fr.refl{S:List Nat}:Fr S Y Y:=λ_ _ e _=>e
theorem Fr.trans{S:List Nat}(x:Fr S Y1 Y2)(y:Fr S Y2 Y3):Fr S Y1 Y3:=λb o e n=>y b o (x b o e n) n
theorem Fr.mono{S S':List Nat}(x:Fr S Y Y')(h:∀b,b∈S->b∈S'):Fr S' Y Y':=λb o e n=>x b o e λm=>n (h b m)
theorem Fr.put{S:List Nat}{a:Nat}(h:a∈S):Fr S Y (Tactic.put Y a o):=λb ob e n=>(ae λq=>n (by rw[q];show h)).trans e
theorem Fr.new{S:List Nat}{a:Nat}(h:Y a=none):Fr S Y (Tactic.put Y a o):=λb ob e n=>(ae λq=>by nomatch q,h,e).trans e
theorem Fr.k{b:Nat}(f:Fr [] Y Y')(h:Y b=some o):Y' b=some o:=f _ _ h (by simp)
abbrev nO(t:Int)(p:Nat)(l r q:V):O:=.inst 1 [(103,.int t),(63,.ref p),(95,l),(96,r),(104,q)]
abbrev hZ(r:V):O:=.inst 2 [(79,r)]
theorem iD{n}{a t p l r q}{K:V->Prop}(h:Y a=some (nO t p l r q))(hk:K (.int t)):m6 (Wn n).cu (.ref a) 103 K Y:=aA h hk
theorem vo{n}{a t p l r q}{K:V->Prop}(h:Y a=some (nO t p l r q))(hk:K (.ref p)):m6 (Wn n).cu (.ref a) 63 K Y:=aA h hk
theorem d9{n}{a t p l r q}{K:V->Prop}(h:Y a=some (nO t p l r q))(hk:K l):m6 (Wn n).cu (.ref a) 95 K Y:=aA h hk
theorem ef{n}{a t p l r q}{K:V->Prop}(h:Y a=some (nO t p l r q))(hk:K r):m6 (Wn n).cu (.ref a) 96 K Y:=aA h hk
theorem du{n}{a t p l r q}{K:V->Prop}(h:Y a=some (nO t p l r q))(hk:K q):m6 (Wn n).cu (.ref a) 104 K Y:=aA h hk
theorem Oj{n}{a r}{K:V->Prop}(h:Y a=some (hZ r))(hk:K r):m6 (Wn n).cu (.ref a) 79 K Y:=aA h hk
theorem sW{n}{a t p l r q i}{K:So->Prop}(h:Y a=some (nO t p l r q))(hk:K (put Y a (nO i p l r q))):jS (Wn n).cu (.ref a) 103 (.int i) K Y:=sat h hk
theorem aqp{n}{a t p l r q i}{K:So->Prop}(h:Y a=some (nO t p l r q))(hk:K (put Y a (nO t i l r q))):jS (Wn n).cu (.ref a) 63 (.ref i) K Y:=sat h hk
theorem Fu{n}{a t p l r q v}{K:So->Prop}(h:Y a=some (nO t p l r q))(hk:K (put Y a (nO t p v r q))):jS (Wn n).cu (.ref a) 95 v K Y:=sat h hk
theorem BI{n}{a t p l r q v}{K:So->Prop}(h:Y a=some (nO t p l r q))(hk:K (put Y a (nO t p l v q))):jS (Wn n).cu (.ref a) 96 v K Y:=sat h hk
theorem Fv{n}{a t p l r q v}{K:So->Prop}(h:Y a=some (nO t p l r q))(hk:K (put Y a (nO t p l r v))):jS (Wn n).cu (.ref a) 104 v K Y:=sat h hk
theorem aod{n}{a r v}{K:So->Prop}(h:Y a=some (hZ r))(hk:K (put Y a (hZ v))):jS (Wn n).cu (.ref a) 79 v K Y:=sat h hk
set_option genInjectivity true in
inductive T where
 |nil
 |nd (a:Nat) (l r:T) (t:Int) (p:Nat)
def T.ctorIdx(v:T):Nat:=(by cases v with | nil=>show 0 | nd=>show 1)
def T.root:T->V
 | .nil=>.none
 | .nd a _ _ _ _=>.ref a
def ym{o:Option V}{p:V->Prop}(n:Nat.beq v.ctorIdx 5=false)(h:o=some v)(k:p v):(match (generalizing:=false) o with | some (.bA _ _ _)=>False | some v=>p v | Option.none=>False):=by
 subst h;cases v<;>first | show k | cases n
def T.nc(s:T):Nat.beq s.root.ctorIdx 5=false:=by cases s<;>rfl
def T.aj:T->Int
 | .nil=>0
 | .nd _ _ _ t _=>t
def T.ag:T->List Nat
 | .nil=>[]
 | .nd a l r _ _=>l.ag++a::r.ag
def T.seq:T->List (Nat×Int×Nat)
 | .nil=>[]
 | .nd a l r t p=>l.seq++(a,t-l.aj-r.aj,p)::r.seq
def TR(Y:So):T->V->Prop
 | .nil,_=>True
 | .nd a l r t p,q=>Y a=some (nO t p l.root r.root q)/\TR Y l (.ref a)/\TR Y r (.ref a)
def TR.congr{q:V}(h:TR Y t q)(k:∀b∈t.ag,Y' b=Y b):TR Y' t q:=by
 induction t generalizing q with
 |nil=>trivial
 |nd a l r t p dD fN=>show⟨(k a (iJ _ (.head _))).trans h.1,dD h.2.1 λb hb=>k b (gQ _ hb),fN h.2.2 λb hb=>k b (iJ _ (.tail _ hb))⟩
inductive F1 where
 |L (a:Nat) (t:Int) (p:Nat) (r:T)
 |R (a:Nat) (t:Int) (p:Nat) (l:T)
def F1.ctorIdx(v:F1):Nat:=(by cases v with | L=>show 0 | R=>show 1)
def F1.a:F1->Nat
 | .L a _ _ _=>a
 | .R a _ _ _=>a
def cV:List F1->V
 | []=>.none
 |f::_=>.ref f.a
def apg(k:List F1):Nat.beq (cV k).ctorIdx 5=false:=by cases k<;>rfl
def CR(Y:So):V->List F1->Prop
 |_,[]=>True
 |v,.L a t p r::k=>Y a=some (nO t p v r.root (cV k))/\TR Y r (.ref a)/\CR Y (.ref a) k
 |v,.R a t p l::k=>Y a=some (nO t p l.root v (cV k))/\TR Y l (.ref a)/\CR Y (.ref a) k
def ax:List F1->List Nat
 | []=>[]
 | .L a _ _ r::k=>a::r.ag++ax k
 | .R a _ _ l::k=>a::l.ag++ax k
def F1.BJ{f:F1}{k:List F1}:f.a∈ax (f::k):=by cases f<;>show .head _
def CR.congr{k:List F1}(h:CR Y v k)(e:∀b∈ax k,Y' b=Y b):CR Y' v k:=by
 induction k generalizing v with
 |nil=>trivial
 |cons f k ih=>
  cases f with
  |L a t p r=>show⟨(e a (gQ _ (.head _))).trans h.1,h.2.1.congr λb hb=>e b (gQ _ (.tail _ hb)),ih h.2.2 λb hb=>e b (iJ _ hb)⟩
  |R a t p r=>show⟨(e a (gQ _ (.head _))).trans h.1,h.2.1.congr λb hb=>e b (gQ _ (.tail _ hb)),ih h.2.2 λb hb=>e b (iJ _ hb)⟩
def cW:T->List F1->T
 |t,[]=>t
 |t,.L a n p r::k=>cW (.nd a t r n p) k
 |t,.R a n p l::k=>cW (.nd a l t n p) k
def qy:V->List F1->V
 |v,[]=>v
 |_,f::k=>qy (.ref f.a) k
structure Z(Y:So)(tr:Nat)(t:T)(k:List F1):Prop where
 tt:TR Y t (cV k)
 cc:CR Y t.root k
 nd:(t.ag++ax k).Nodup
 rr:Y tr=some (hZ (qy t.root k))
theorem Ol{k Q X s}(h:Q (.int 0) s):(Wn (k+1)).call 47 [.none] Q X s:=h
def Fw{k Q X Y a t p l r q}(h:Y a=some (nO t p l r q))(hq:Q (.int t) Y):(Wn (k+1)).call 47 [.ref a] Q X Y:=by
 exact en (fd:=JA) rfl ?_;exact iD h ?_;show hq
def jB{k Q X Y}{q:V}(h:TR Y t q)(hq:Q (.int t.aj) Y):(Wn (k+1)).call 47 [t.root] Q X Y:=by
 cases t with
 |nil=>show hq
 |nd a l r n p=>show Fw h.1 hq
def Fx{k Q X Y a l r t p q}(h:TR Y (.nd a l r t p) q)(hq:Q (.int (t-l.aj-r.aj)) Y):(Wn (k+2)).call 48 [.ref a] Q X Y:=by
 exact en (fd:=JB) rfl ?_;exact iD h.1 ?_;exact d9 h.1 ?_;exact jB h.2.1 ?_;exact ef h.1 ?_;exact jB h.2.2 ?_;show hq
theorem dv{S:List Nat}{a b:Nat}(h:a∉S)(hb:b∈S):b≠a:=λe=>h (e ▸ hb)
def cY(m:Int):List F1->List F1
 | []=>[]
 | .L a t p r::k=>.L a (t+m) p r::cY m k
 | .R a t p l::k=>.R a (t+m) p l::cY m k
def yn(m:Int)(k:List F1):cV (cY m k)=cV k:=by
 cases k with
 |nil=>rfl
 |cons f k=>cases f<;>rfl
def ajB(m:Int):∀k:List F1,ax (cY m k)=ax k:=by
 intro zl;induction zl with
 |nil=>
  show rfl
 |cons zx k ih=>
  cases zx with
  |L a t p r=>
   simp[cY,ax,ih]
  |R a t p l=>
   simp[cY,ax,ih]
def aiK(m:Int):∀(k:List F1) (v:V),qy v (cY m k)=qy v k:=by
 intro zl;induction zl with
 |nil=>
  intro _;show rfl
 |cons zx k ih=>
  cases zx with
  |L a t p r=>
   intro v;show ih _
  |R a t p l=>
   intro v;show ih _
def BK{n Q X m}:∀{k:List F1}{v:V}{Y:So},CR Y v k->(ax k).Nodup->(∀Y',CR Y' v (cY m k)->(∀b,b∉ax k->Y' b=Y b)->Q .none Y')->(Wn (n+1)).call 63 [cV k,.int m] Q X Y:=by
 intro k v Y hc nd hq;have jC:wSs (Wn n) Dd.body [(93,cV k),(2,.int m)] (qN Q) Q X Y->(Wn (n+1)).call 63 [cV k,.int m] Q X Y:=λh=>en (fd:=Dd) rfl h (h2:=by clear h hc hq nd;cases k<;>rfl);exact jC ?_;intro P hP;clear jC;have key:∀(k:List F1) (v:V) (Y:So),CR Y v k->(ax k).Nodup->(∀Y',CR Y' v (cY m k)->(∀b,b∉ax k->Y' b=Y b)->Q .none Y')->P [(93,cV k),(2,.int m)] Y:=by
  intro k;induction k with
  |nil=>intro v Y _ _ hq;show hP _ _ (hq Y trivial λ_ _=>rfl)
  |cons f k ih=>
   intro v Y hc nd hq;cases f with
   |L a t p r=>
    obtain⟨h1,h2,h3⟩:=hc;have bC:(a::(r.ag++ax k)).Nodup:=nd;rw[bS,bH,not_or] at bC;show P [(93,.ref a),(2,.int m)] Y;exact hP _ _ ?_;exact iD h1 ?_;exact sW h1 ?_;exact du ah ?_;exact ih (.ref a) _ (h3.congr λb hb=>ae (dv bC.1.2 hb)) (dg.mp bC.2).2.1 λY' kX ho=>?_;exact hq Y' ⟨?_,?_,kX⟩ λb hb=>?_
    ·rw[ho a bC.1.2,yn];show ah
    ·exact h2.congr λb hb=>?_;have:b∉ax k:=λe=>(dg.mp bC.2).2.2 b hb b e rfl;rw[ho b this,ae (dv bC.1.1 hb)]
    ·have aK:b≠a/\b∉r.ag/\b∉ax k:=by simpa [ax,not_or] using hb
     rw[ho b aK.2.2,ae aK.1]
   |R a t p r=>
    obtain⟨h1,h2,h3⟩:=hc;have bC:(a::(r.ag++ax k)).Nodup:=nd;rw[bS,bH,not_or] at bC;show P [(93,.ref a),(2,.int m)] Y;exact hP _ _ ?_;exact iD h1 ?_;exact sW h1 ?_;exact du ah ?_;exact ih (.ref a) _ (h3.congr λb hb=>ae (dv bC.1.2 hb)) (dg.mp bC.2).2.1 λY' kX ho=>?_;exact hq Y' ⟨?_,?_,kX⟩ λb hb=>?_
    ·rw[ho a bC.1.2,yn];show ah
    ·exact h2.congr λb hb=>?_;have:b∉ax k:=λe=>(dg.mp bC.2).2.2 b hb b e rfl;rw[ho b this,ae (dv bC.1.1 hb)]
    ·have aK:b≠a/\b∉r.ag/\b∉ax k:=by simpa [ax,not_or] using hb
     rw[ho b aK.2.2,ae aK.1]
 show key k v Y hc nd hq
def TR.at_{q:V}(h:TR Y t q)(b)(hb:b∈t.ag):∃n p l r q',Y b=some (nO n p l r q'):=by
 induction t generalizing q with
 |nil=>show v9 hb
 |nd a l r t p dD fN=>show(bH.mp (show b∈l.ag++a::r.ag from hb)).elim (dD h.2.1) λh'=>(aO.mp h').elim (λe=>by rw[e];show⟨_,_,_,_,_,h.1⟩) (fN h.2.2)
def CR.at_{k:List F1}(h:CR Y v k)(b)(hb:b∈ax k):∃n p l r q',Y b=some (nO n p l r q'):=by
 induction k generalizing v with
 |nil=>show v9 hb
 |cons f k ih=>
  cases f with
  |L a t p r=>show(bH.mp hb).elim (λhb=>(aO.mp hb).elim (λe=>by rw[e];show⟨_,_,_,_,_,h.1⟩) (h.2.1.at_ b)) (ih h.2.2)
  |R a t p r=>show(bH.mp hb).elim (λhb=>(aO.mp hb).elim (λe=>by rw[e];show⟨_,_,_,_,_,h.1⟩) (h.2.1.at_ b)) (ih h.2.2)
theorem TR.no{q:V}(h:TR Y t q)(e:Y tr=some (hZ v)):tr∉t.ag:=λhb=>by
 obtain⟨_,_,_,_,_,e'⟩:=h.at_ tr hb
 nomatch e,e'
theorem CR.no{k:List F1}{q:V}(h:CR Y q k)(e:Y tr=some (hZ v)):tr∉ax k:=λhb=>by
 obtain⟨_,_,_,_,_,e'⟩:=h.at_ tr hb
 nomatch e,e'
theorem TR.Fy{y l r t p q q'}(h:TR Y (.nd y l r t p) q)(hl:y∉l.ag)(hr:y∉r.ag):TR (put Y y (nO t p l.root r.root q')) (.nd y l r t p) q':=
 ⟨ah,h.2.1.congr λb hb=>ae (dv hl hb),h.2.2.congr λb hb=>ae (dv hr hb)⟩
def iP{r:T}{t p}{k:List Nat}(h:((T.nd y l r t p).ag++k).Nodup):y∉l.ag/\y∉r.ag/\y∉k/\l.ag.Nodup/\r.ag.Nodup/\k.Nodup/\(∀b∈l.ag,b∉r.ag/\b∉k)/\(∀b∈r.ag,b∉k):=by
 have h':(l.ag++(y::(r.ag++k))).Nodup:=by simpa [T.ag,kJ] using h
 obtain⟨h1,h2,h3⟩:=dg.mp h';rw[bS,bH,not_or] at h2;obtain⟨h4,h5,h6⟩:=dg.mp h2.2;exact⟨λm=>h3 y m y (.head _) rfl,h2.1.1,h2.1.2,h1,h4,h5,λb hb=>⟨λm=>h3 b hb b (.tail _ (gQ _ m)) rfl,λm=>h3 b hb b (.tail _ (iJ _ m)) rfl⟩,λb hb m=>h6 b hb b m rfl⟩
def Fz{n Q X}{x:Nat}{k:List F1}{tx px lx rx}(hx:Y x=some (nO tx px lx rx (cV k)))(hc:CR Y (.ref x) k)(hr:Y tr=some (hZ (qy (.ref x) k)))(hs:TR Y s q0)(nd:(s.ag++ax k).Nodup)(xk:x∉ax k)(xs:x∉s.ag)
  (hq:∀Y',TR Y' s (cV k)->CR Y' s.root k->Y' tr=some (hZ (qy s.root k))->(∀b,b∉s.ag->b∉ax k->b≠tr->Y' b=Y b)->Q .none Y'):(Wn (n+1)).call 71 [.ref tr,.ref x,s.root] Q X Y:=by
 have jC:wSs (Wn n) Di.body [(58,.ref tr),(93,.ref x),(33,s.root)] (qN Q) Q X Y->(Wn (n+1)).call 71 [.ref tr,.ref x,s.root] Q X Y:=λh=>en (fd:=Di) rfl h (h2:=by clear h hq hs nd xs;cases s<;>rfl);exact jC ?_;clear jC;have Om:=hs.no hr;have o5:=hc.no hr;exact du hx ?_;have qz:∀Y1,TR Y1 s (cV k)->(∀b,b∉s.ag->Y1 b=Y b)->wS (Wn n) (.iff (.cmp .is (.v 104) .cN) [.asg (.attr (.v 58) 79) (.v 33)] [.iff (.cmp .is (.attr (.v 104) 95) (.v 93)) [.asg (.attr (.v 104) 95) (.v 33)] [.asg (.attr (.v 104) 96) (.v 33)]]) [(58,.ref tr),(93,.ref x),(33,s.root),(104,cV k)] (λm s=>wSs (Wn n) [] m (qN Q) Q X s) Q X Y1:=by
  intro Y1 h1 h2;have vn:Y1 tr=some (hZ (qy (.ref x) k)):=(h2 tr Om).trans hr;have bT:Y1 x=some (nO tx px lx rx (cV k)):=(h2 x xs).trans hx;cases k with
  |nil=>
   have fin:wSs (Wn n) [] [(58,.ref tr),(93,.ref x),(33,s.root),(104,.none)] (qN Q) Q X (put Y1 tr (hZ s.root)):=
    hq _ (h1.congr λb hb=>ae (dv Om hb)) trivial ah λb hb _ aK=>(ae aK).trans (h2 b hb)
   (exact ym s.nc rfl ?_;show aod vn fin)
  |cons f k=>
   have dis:∀b∈ax (f::k),b∉s.ag:=λb hb hs=>(dg.mp nd).2.2 b hs b hb rfl;have eo:CR Y1 (.ref x) (f::k):=hc.congr λb hb=>h2 b (dis b hb);have FC:=(dg.mp nd).2.1;cases f with
   |L a t p r=>
    obtain⟨c1,c2,c3⟩:=eo;have bC:(a::(r.ag++ax k)).Nodup:=FC;rw[bS,bH,not_or] at bC;have has:a∉s.ag:=dis a (.head _);show wS (Wn n) (.iff (.cmp .is (.v 104) .cN) [.asg (.attr (.v 58) 79) (.v 33)] [.iff (.cmp .is (.attr (.v 104) 95) (.v 93)) [.asg (.attr (.v 104) 95) (.v 33)] [.asg (.attr (.v 104) 96) (.v 33)]]) [(58,.ref tr),(93,.ref x),(33,s.root),(104,.ref a)] (λm s=>wSs (Wn n) [] m (qN Q) Q X s) Q X Y1;exact d9 c1 ?_;exact sS bT bT (λ_=>?_) (λe=>absurd rfl e);have fin:wSs (Wn n) [] [(58,.ref tr),(93,.ref x),(33,s.root),(104,.ref a)] (qN Q) Q X (put Y1 a (nO t p s.root r.root (cV k))):=by
     exact hq _ (h1.congr λb hb=>ae λe=>has (e ▸ hb)) ⟨ah,c2.congr λb hb=>ae (dv bC.1.1 hb),c3.congr λb hb=>ae (dv bC.1.2 hb)⟩ ?_ λb hb jD fO=>?_
     ·have:tr≠a:=λe=>o5 (by rw[e];show .head _);rw[ae this];show vn
     ·have:b≠a:=λe=>jD (by rw[e];show .head _);rw[ae this];show h2 b hb
    (exact ym s.nc rfl ?_;show Fu c1 fin)
   |R a t p l=>
    obtain⟨c1,c2,c3⟩:=eo;have bC:(a::(l.ag++ax k)).Nodup:=FC;rw[bS,bH,not_or] at bC;have has:a∉s.ag:=dis a (.head _);have fin:wSs (Wn n) [] [(58,.ref tr),(93,.ref x),(33,s.root),(104,.ref a)] (qN Q) Q X (put Y1 a (nO t p l.root s.root (cV k))):=by
     exact hq _ (h1.congr λb hb=>ae λe=>has (e ▸ hb)) ⟨ah,c2.congr λb hb=>ae (dv bC.1.1 hb),c3.congr λb hb=>ae (dv bC.1.2 hb)⟩ ?_ λb hb jD fO=>?_
     ·have:tr≠a:=λe=>o5 (by rw[e];show .head _);rw[ae this];show vn
     ·have:b≠a:=λe=>jD (by rw[e];show .head _);rw[ae this];show h2 b hb
    show wS (Wn n) (.iff (.cmp .is (.v 104) .cN) [.asg (.attr (.v 58) 79) (.v 33)] [.iff (.cmp .is (.attr (.v 104) 95) (.v 93)) [.asg (.attr (.v 104) 95) (.v 33)] [.asg (.attr (.v 104) 96) (.v 33)]]) [(58,.ref tr),(93,.ref x),(33,s.root),(104,.ref a)] (λm s=>wSs (Wn n) [] m (qN Q) Q X s) Q X Y1;exact d9 c1 ?_;clear bC FC o5;cases l with
    |nil=>
     (exact ym s.nc rfl ?_;show BI c1 fin)
    |nd z lz rz tz pz=>
     exact sS c2.1 bT (λe=>?_) (λ_=>?_)
     ·exfalso;clear c1 fin hc hr vn hx bT xs;subst e;show xk (by simp[ax,T.ag])
     ·(exact ym s.nc rfl ?_;show BI c1 fin)
 cases s with
 |nil=>show qz Y trivial λ_ _=>rfl
 |nd y l r t p=>
  obtain⟨y1,y2,_⟩:=iP nd;have fin:=qz _ (hs.Fy (q':=cV k) y1 y2) λb hb=>ae λe=>hb (by rw[e];simp[T.ag])
  (exact ym (apg k) rfl ?_;show Fv hs.1 fin)
def BL{n Q X}{x:Nat}{t p l r q}(hx:Y x=some (nO t p l r q))(hs:TR Y s q0)(xs:x∉s.ag)(nd:s.ag.Nodup)
  (hq:∀Y',Y' x=some (nO t p s.root r q)->TR Y' s (.ref x)->(∀b,b≠x->b∉s.ag->Y' b=Y b)->Q .none Y'):(Wn (n+1)).call 69 [.ref x,s.root] Q X Y:=by
 cases s with
 |nil=>
  exact en (fd:=Dh) rfl ?_;exact Fu hx ?_;show hq _ ah trivial λb hb _=>ae hb
 |nd y l' r' t' p'=>
  obtain⟨y1,y2,_⟩:=iP (k:=[]) (by simpa using nd);have yx:y≠x:=λe=>xs (by rw[<-e];simp[T.ag]);exact en (fd:=Dh) rfl ?_;exact Fu hx ?_;exact Fv (t:=t') (p:=p') (l:=l'.root) (r:=r'.root) (q:=q0) ((ae yx).trans hs.1) ?_;exact hq _ ((ae (aaa yx)).trans ah) ?_ λb hb aK=>?_
  ·have h1:TR (put Y x (nO t p (.ref y) r q)) (.nd y l' r' t' p') q0:=hs.congr λb hb=>ae λe=>xs (e ▸ hb);show h1.Fy y1 y2
  ·rw[ae (λe=>aK (by rw[e];simp[T.ag])),ae hb]
def FD{n Q X}{x:Nat}{t p l r q}(hx:Y x=some (nO t p l r q))(hs:TR Y s q0)(xs:x∉s.ag)(nd:s.ag.Nodup)
  (hq:∀Y',Y' x=some (nO t p l s.root q)->TR Y' s (.ref x)->(∀b,b≠x->b∉s.ag->Y' b=Y b)->Q .none Y'):(Wn (n+1)).call 68 [.ref x,s.root] Q X Y:=by
 cases s with
 |nil=>
  exact en (fd:=Dg) rfl ?_;exact BI hx ?_;show hq _ ah trivial λb hb _=>ae hb
 |nd y l' r' t' p'=>
  obtain⟨y1,y2,_⟩:=iP (k:=[]) (by simpa using nd);have yx:y≠x:=λe=>xs (by rw[<-e];simp[T.ag]);exact en (fd:=Dg) rfl ?_;exact BI hx ?_;exact Fv (t:=t') (p:=p') (l:=l'.root) (r:=r'.root) (q:=q0) ((ae yx).trans hs.1) ?_;exact hq _ ((ae (aaa yx)).trans ah) ?_ λb hb aK=>?_
  ·have h1:TR (put Y x (nO t p l (.ref y) q)) (.nd y l' r' t' p') q0:=hs.congr λb hb=>ae λe=>xs (e ▸ hb);show h1.Fy y1 y2
  ·rw[ae (λe=>aK (by rw[e];simp[T.ag])),ae hb]
def ajb{n Q X}{x:Nat}{A B C:T}{tx ty:Int}{px py:Nat}{k:List F1}(z:Z Y tr (.nd x (.nd y A B ty py) C tx px) k)
  (hq:∀Y',Z Y' tr (.nd y A (.nd x B C (tx-ty+B.aj) px) tx py) k->(∀b,b∉(T.nd x (.nd y A B ty py) C tx px).ag->b∉ax k->b≠tr->Y' b=Y b)->Q (.ref y) Y'):(Wn (n+2)).call 74 [.ref tr,.ref x] Q X Y:=by
 obtain⟨tt,cc,nd,rr⟩:=z;obtain⟨x1,x2,x3,n1,n2,n3,d1,d2⟩:=iP nd;obtain⟨y1,y2,_,m1,m2,_,e1,_⟩:=iP (k:=[]) (by simpa using n1);have hx:=tt.1;have hy:y∈(T.nd y A B ty py).ag:=by simp[T.ag]
 have xy:x≠y:=λe=>x1 (e ▸ hy);have yo:tr≠x:=λe=>by rw[e] at rr;nomatch rr,hx
 have hA:∀b∈A.ag,b∈(T.nd y A B ty py).ag:=λb hb=>by simp[T.ag,hb]
 have hB:∀b∈B.ag,b∈(T.nd y A B ty py).ag:=λb hb=>by simp[T.ag,hb]
 have lU:=tt.2.1.no rr;have Oo:=tt.2.2.no rr;have o5:=CR.no cc rr;exact en (fd:=JZ) rfl ?_;exact d9 hx ?_;exact Fz (s:=.nd y A B ty py) hx cc rr tt.2.1 (by
  have h':((T.nd y A B ty py).ag++(x::(C.ag++ax k))).Nodup:=by simpa [T.ag,kJ] using nd
  show dg.mpr ⟨n1,n3,λa ha b hb e=>(d1 a ha).2 (e ▸ hb)⟩) x3 x1 λY1 t1 c1 r1 o1=>?_
 have bT:Y1 x=some (nO tx px (.ref y) C.root (cV k)):=(o1 x x1 x3 (aaa yo)).trans hx;have hC1:TR Y1 C (.ref x):=tt.2.2.congr λb hb=>o1 b (λh=>(d1 b h).1 hb) (d2 b hb) (λe=>Oo (e ▸ hb));exact iD bT ?_;exact iD bT ?_;exact iD t1.1 ?_;exact ef t1.1 ?_;exact jB t1.2.2 ?_;exact sW bT ?_;have t2:TR (put Y1 x (nO (tx-ty+B.aj) px (.ref y) C.root (cV k))) (.nd y A B ty py) (cV k):=t1.congr λb hb=>ae λe=>x1 (e ▸ hb);exact ef t2.1 ?_;exact BL ah t2.2.2 (λh=>x1 (hB x h)) m2 λY3 f1 f2 f3=>?_;have FE:Y3 y=some (nO ty py A.root B.root (cV k)):=(f3 y (aaa xy) y2).trans t2.1;have hC3:TR Y3 C (.ref x):=hC1.congr λb hb=>(f3 b (λe=>x2 (e ▸ hb)) λh=>(d1 b (hB b h)).1 hb).trans (ae λe=>x2 (e ▸ hb));have FG:TR Y3 (.nd x B C (tx-ty+B.aj) px) (cV k):=⟨f1,f2,hC3⟩;have yX:y∉(T.nd x B C (tx-ty+B.aj) px).ag:=by
  intro h;rcases bH.mp (show y∈B.ag++x::C.ag from h) with h | h
  ·show y2 h
  ·rcases aO.mp h with h | h
   ·show xy h.symm
   ·show(d1 y hy).1 h
 have nX:(T.nd x B C (tx-ty+B.aj) px).ag.Nodup:=by
  show(B.ag++x::C.ag).Nodup;exact dg.mpr ⟨m2,bS.mpr ⟨x2,n2⟩,λa ha b hb e=>?_⟩;rcases aO.mp hb with h | h
  ·show x1 (hB x (by rw[<-h,<-e];show ha))
  ·show(d1 a (hB a ha)).1 (e ▸ h)
 exact FD (s:=.nd x B C (tx-ty+B.aj) px) FE FG yX nX λY4 g1 g2 g3=>?_;exact sW g1 ?_;have sX:∀b,b≠x->b∉B.ag->b∉C.ag->b∉(T.nd x B C (tx-ty+B.aj) px).ag:=λb h1 h2 h3 h=>by
  rcases bH.mp (show b∈B.ag++x::C.ag from h) with h | h
  ·show h2 h
  ·rcases aO.mp h with h | h
   ·show h1 h
   ·show h3 h
 have far:∀b,b≠y->b≠x->b∉B.ag->b∉C.ag->put Y4 y (nO tx py A.root (.ref x) (cV k)) b=Y1 b:=λb h1 h2 h3 h4=>by
  rw[ae h1,g3 b h1 (sX b h2 h3 h4),f3 b h2 h3,ae h2]
 exact hq _ ⟨⟨ah,t1.2.1.congr λb hb=>far b (λe=>y1 (e ▸ hb)) (λe=>x1 (e ▸ hA b hb)) (e1 b hb).1 λh=>(d1 b (hA b hb)).1 h,g2.congr λb hb=>ae λe=>yX (e ▸ hb)⟩,c1.congr λb hb=>far b (λe=>(d1 y hy).2 (e ▸ hb)) (λe=>x3 (e ▸ hb)) (λh=>(d1 b (hB b h)).2 hb) (λh=>d2 b h hb),?_,?_⟩ λb hb aK jD=>?_
 ·have p1:(T.nd y A (.nd x B C (tx-ty+B.aj) px) tx py).ag++ax k=(T.nd x (.nd y A B ty py) C tx px).ag++ax k:=by simp[T.ag,kJ]
  rw[p1];show nd
 ·show(far tr (λe=>lU (e ▸ hy)) yo (λh=>lU (hB tr h)) Oo).trans r1
 ·have fO:b∉A.ag/\b≠y/\b∉B.ag/\b≠x/\b∉C.ag:=by simpa [T.ag,not_or,and_assoc] using hb
  show(far b fO.2.1 fO.2.2.2.1 fO.2.2.1 fO.2.2.2.2).trans (o1 b (by simp[T.ag,fO]) aK jD)
def akf{n Q X}{x:Nat}{A B C:T}{tx ty:Int}{px py:Nat}{k:List F1}(z:Z Y tr (.nd x A (.nd y B C ty py) tx px) k)
  (hq:∀Y',Z Y' tr (.nd y (.nd x A B (tx-ty+B.aj) px) C tx py) k->(∀b,b∉(T.nd x A (.nd y B C ty py) tx px).ag->b∉ax k->b≠tr->Y' b=Y b)->Q (.ref y) Y'):(Wn (n+2)).call 76 [.ref tr,.ref x] Q X Y:=by
 obtain⟨tt,cc,nd,rr⟩:=z;obtain⟨x1,x2,x3,n1,n2,n3,d1,d2⟩:=iP nd;obtain⟨y1,y2,_,m1,m2,_,e1,_⟩:=iP (k:=[]) (by simpa using n2);have hx:=tt.1;have hy:y∈(T.nd y B C ty py).ag:=by simp[T.ag]
 have xy:x≠y:=λe=>x2 (e ▸ hy);have yo:tr≠x:=λe=>by rw[e] at rr;nomatch rr,hx
 have hC:∀b∈C.ag,b∈(T.nd y B C ty py).ag:=λb hb=>by simp[T.ag,hb]
 have hB:∀b∈B.ag,b∈(T.nd y B C ty py).ag:=λb hb=>by simp[T.ag,hb]
 have lU:=tt.2.2.no rr;have Oq:=tt.2.1.no rr;have o5:=CR.no cc rr;exact en (fd:=J1) rfl ?_;exact ef hx ?_;exact Fz (s:=.nd y B C ty py) hx cc rr tt.2.2 (dg.mpr ⟨n2,n3,λa ha b hb e=>d2 a ha (e ▸ hb)⟩) x3 x2 λY1 t1 c1 r1 o1=>?_;have bT:Y1 x=some (nO tx px A.root (.ref y) (cV k)):=(o1 x x2 x3 (aaa yo)).trans hx;have hA1:TR Y1 A (.ref x):=tt.2.1.congr λb hb=>o1 b (d1 b hb).1 (d1 b hb).2 (λe=>Oq (e ▸ hb));exact iD bT ?_;exact iD bT ?_;exact iD t1.1 ?_;exact d9 t1.1 ?_;exact jB t1.2.1 ?_;exact sW bT ?_;have t2:TR (put Y1 x (nO (tx-ty+B.aj) px A.root (.ref y) (cV k))) (.nd y B C ty py) (cV k):=t1.congr λb hb=>ae λe=>x2 (e ▸ hb);exact d9 t2.1 ?_;exact FD ah t2.2.1 (λh=>x2 (hB x h)) m1 λY3 f1 f2 f3=>?_;have FE:Y3 y=some (nO ty py B.root C.root (cV k)):=(f3 y (aaa xy) y1).trans t2.1;have hA3:TR Y3 A (.ref x):=hA1.congr λb hb=>(f3 b (λe=>x1 (e ▸ hb)) λh=>(d1 b hb).1 (hB b h)).trans (ae λe=>x1 (e ▸ hb));have FG:TR Y3 (.nd x A B (tx-ty+B.aj) px) (cV k):=⟨f1,hA3,f2⟩;have yX:y∉(T.nd x A B (tx-ty+B.aj) px).ag:=by
  intro h;rcases bH.mp (show y∈A.ag++x::B.ag from h) with h | h
  ·show(d1 y h).1 hy
  ·rcases aO.mp h with h | h
   ·show xy h.symm
   ·show y1 h
 have nX:(T.nd x A B (tx-ty+B.aj) px).ag.Nodup:=by
  show(A.ag++x::B.ag).Nodup;exact dg.mpr ⟨n1,bS.mpr ⟨λh=>x2 (hB x h),m1⟩,λa ha b hb e=>?_⟩;rcases aO.mp hb with h | h
  ·show x1 (by rw[<-h,<-e];show ha)
  ·show(d1 a ha).1 (hB a (e ▸ h))
 exact BL (s:=.nd x A B (tx-ty+B.aj) px) FE FG yX nX λY4 g1 g2 g3=>?_;exact sW g1 ?_;have sX:∀b,b≠x->b∉A.ag->b∉B.ag->b∉(T.nd x A B (tx-ty+B.aj) px).ag:=λb h1 h2 h3 h=>by
  rcases bH.mp (show b∈A.ag++x::B.ag from h) with h | h
  ·show h2 h
  ·rcases aO.mp h with h | h
   ·show h1 h
   ·show h3 h
 have far:∀b,b≠y->b≠x->b∉A.ag->b∉B.ag->put Y4 y (nO tx py (.ref x) C.root (cV k)) b=Y1 b:=λb h1 h2 h3 h4=>by
  rw[ae h1,g3 b h1 (sX b h2 h3 h4),f3 b h2 h4,ae h2]
 exact hq _ ⟨⟨ah,g2.congr λb hb=>ae λe=>yX (e ▸ hb),t1.2.2.congr λb hb=>far b (λe=>y2 (e ▸ hb)) (λe=>x2 (e ▸ hC b hb)) (λh=>(d1 b h).1 (hC b hb)) λh=>(e1 b h).1 hb⟩,c1.congr λb hb=>far b (λe=>d2 y hy (e ▸ hb)) (λe=>x3 (e ▸ hb)) (λh=>(d1 b h).2 hb) (λh=>d2 b (hB b h) hb),?_,?_⟩ λb hb aK jD=>?_
 ·have p1:(T.nd y (.nd x A B (tx-ty+B.aj) px) C tx py).ag++ax k=(T.nd x A (.nd y B C ty py) tx px).ag++ax k:=by simp[T.ag,kJ]
  rw[p1];show nd
 ·show(far tr (λe=>lU (e ▸ hy)) yo Oq (λh=>lU (hB tr h))).trans r1
 ·have fO:b∉A.ag/\b≠x/\b∉B.ag/\b≠y/\b∉C.ag:=by simpa [T.ag,not_or,and_assoc] using hb
  show(far b fO.2.2.2.1 fO.2.1 fO.1 fO.2.2.1).trans (o1 b (by simp[T.ag,fO]) aK jD)
def FH{a xs}(h:Y a=some (.lst xs))(hb:xs.length<big)(hq:∀c,Y c=none->Q (.ref c) (put Y c (.lst xs))):bi .lst [.ref a] Q Y:=by
 show ou (Y a) _;rw[h];show⟨hb,hq⟩
def amf{a xs}(h:Y a=some (.tup xs))(hb:xs.length<big)(hq:∀c,Y c=none->Q (.ref c) (put Y c (.lst xs))):bi .lst [.ref a] Q Y:=by
 show ou (Y a) _;rw[h];show⟨hb,hq⟩
def amC{a xs}(h:Y a=some (.cO xs))(hb:xs.length<big)(hq:∀c,Y c=none->Q (.ref c) (put Y c (.lst xs))):bi .lst [.ref a] Q Y:=by
 show ou (Y a) _;rw[h];show⟨hb,hq⟩
def Pos:T->Prop
 | .nil=>True
 | .nd _ l r t _=>0<t-l.aj-r.aj/\Pos l/\Pos r
theorem Pos.nn:∀{t:T},Pos t->0<=t.aj
 | .nil,_=>Int.le_refl _
 | .nd a l r t p,⟨h1,h2,h3⟩=>by
  show(⟨"0:a,0<a-b-c,0:b,0:c",h1,Pos.nn h2,Pos.nn h3⟩:0<=t)
def BM:T->Prop
 | .nd _ (.nd _ A B ty _) r t _=>0<ty-r.aj/\((A.aj-(t-ty+B.aj)).natAbs:Int)<ty-r.aj
 |_=>False
def vp:T->Prop
 | .nd _ l (.nd _ B C ty _) t _=>0<ty-l.aj/\((C.aj-(t-ty+B.aj)).natAbs:Int)<ty-l.aj
 |_=>False
def Ot{x l y B C ty py t p}:vp (.nd x l (.nd y B C ty py) t p)↔(0<ty-l.aj/\((C.aj-(t-ty+B.aj)).natAbs:Int)<ty-l.aj):=by cases l<;>show Iff.rfl
def Ou{x l t p}:¬ vp (.nd x l .nil t p):=by cases l<;>show id
def aic{n Q X}{x:Nat}{r:T}{t:Int}{p:Nat}{q:V}(h:TR Y (.nd x l r t p) q)(hp:Pos (.nd x l r t p))(h1:BM (.nd x l r t p)->Q (.bool true) Y)(h0:¬ BM (.nd x l r t p)->Q (.bool false) Y):(Wn (n+2)).call 73 [.ref x] Q X Y:=by
 have hr:=Pos.nn hp.2.2;exact en (fd:=JY) rfl ?_;exact d9 h.1 ?_;cases l with
 |nil=>
  exact Ol ?_;exact ef h.1 ?_;exact jB h.2.2 ?_;conv=>whnf
  split<;>rename_i e
  ·show h0 id
  ·simp at e;exfalso;show⟨"_,0:a,a<0;0,1,1",hr,e⟩
 |nd y A B ty py=>
  exact Fw h.2.1.1 ?_;exact ef h.1 ?_;exact jB h.2.2 ?_;conv=>whnf
  split<;>rename_i e
  ·simp at e;show h0 λe'=>by have:=e'.1;show⟨"_,a-b:0,0<a-b;0,1,1",e,this⟩
  ·simp only[decide_eq_false_iff_not,Int.not_le] at e;exact d9 h.2.1.1 ?_;exact jB h.2.1.2.1 ?_;exact iD h.1 ?_;exact iD h.2.1.1 ?_;exact ef h.2.1.1 ?_;exact jB h.2.1.2.2 ?_;by_cases e2:((A.aj-(t-ty+B.aj)).natAbs:Int)<ty-r.aj
   ·have:=h1 ⟨e,e2⟩;show Q (.bool (decide (((A.aj-(t-ty+B.aj)).natAbs:Int)<ty-r.aj))) Y;rw[dJ e2];show this
   ·have:=h0 λe'=>e2 e'.2;show Q (.bool (decide (((A.aj-(t-ty+B.aj)).natAbs:Int)<ty-r.aj))) Y;rw[fS e2];show this
def aiI{n Q X}{x:Nat}{r:T}{t:Int}{p:Nat}{q:V}(h:TR Y (.nd x l r t p) q)(hp:Pos (.nd x l r t p))(h1:vp (.nd x l r t p)->Q (.bool true) Y)(h0:¬ vp (.nd x l r t p)->Q (.bool false) Y):(Wn (n+2)).call 75 [.ref x] Q X Y:=by
 have hl:=Pos.nn hp.2.1;exact en (fd:=J0) rfl ?_;exact ef h.1 ?_;cases r with
 |nil=>
  exact Ol ?_;exact d9 h.1 ?_;exact jB h.2.1 ?_;conv=>whnf
  split<;>rename_i e
  ·show h0 Ou
  ·simp at e;exfalso;show⟨"_,0:a,a<0;0,1,1",hl,e⟩
 |nd y B C ty py=>
  rw[Ot] at h1 h0;exact Fw h.2.2.1 ?_;exact d9 h.1 ?_;exact jB h.2.1 ?_;conv=>whnf
  split<;>rename_i e
  ·simp at e;show h0 λe'=>by have:=e'.1;show⟨"_,a-b:0,0<a-b;0,1,1",e,e'.1⟩
  ·simp only[decide_eq_false_iff_not,Int.not_le] at e;exact ef h.2.2.1 ?_;exact jB h.2.2.2.2 ?_;exact iD h.1 ?_;exact iD h.2.2.1 ?_;exact d9 h.2.2.1 ?_;exact jB h.2.2.2.1 ?_;by_cases e2:((C.aj-(t-ty+B.aj)).natAbs:Int)<ty-l.aj
   ·have:=h1 ⟨e,e2⟩;show Q (.bool (decide (((C.aj-(t-ty+B.aj)).natAbs:Int)<ty-l.aj))) Y;rw[dJ e2];show this
   ·have:=h0 λe'=>e2 e'.2;show Q (.bool (decide (((C.aj-(t-ty+B.aj)).natAbs:Int)<ty-l.aj))) Y;rw[fS e2];show this
theorem j9{a l r t p}:(T.nd a l r t p).aj=t:=rfl
theorem BO:T.nil.aj=0:=rfl
def T.count:T->Nat
 | .nil=>0
 | .nd _ l r _ _=>l.count+r.count+1
def sY:T->Nat
 | .nil=>0
 | .nd _ l r _ _=>(l.aj-r.aj).natAbs
def FI:∀t:T,t.seq.length=t.count:=by
 intro zl;induction zl with
 |nil=>
  show rfl
 |nd a l r t p dD fN=>
  simp[T.seq,T.count,dD,fN];show⟨"A+(B+1)~A+B+1"⟩
def vq:∀t:T,t.seq.map (·.1)=t.ag:=by
 intro zl;induction zl with
 |nil=>
  show rfl
 |nd a l r t p dD fN=>
  simp[T.seq,T.ag,dD,fN]
def sQ(l:List (Nat×Int×Nat)):Int:=(l.map (·.2.1)).sum
def vr:∀t:T,sQ t.seq=t.aj:=by
 intro zl;induction zl with
 |nil=>
  show rfl
 |nd a l r t p dD fN=>
  have h1:=dD;have h2:=fN;unfold sQ at h1 h2 ⊢;simp[T.seq,T.aj,h1,h2];show⟨"a+(b-a)=b"⟩
theorem vt:∀{t:T},Pos t↔∀e∈t.seq,0<e.2.1
 | .nil=>by simp[Pos,T.seq]
 | .nd a l r t p=>by
  simp only[Pos,T.seq,bH,aO,vt (t:=l),vt (t:=r)];constructor
  ·rintro⟨h1,h2,h3⟩ e (h | rfl | h)
   ·show h2 e h
   ·show h1
   ·show h3 e h
  ·intro h;show⟨h _ (.inr (.inl rfl)),λe he=>h e (.inl he),λe he=>h e (.inr (.inr he))⟩
abbrev yp(tr x0 w ta:Nat)(ex:Env):Env:=(58,.ref tr)::(93,.ref x0)::(113,.ref w)::(114,.ref ta)::ex
def Sh(tr x0 w ta:Nat)(m:Env):Prop:=∃ex,m=yp tr x0 w ta ex/\Suf [112,110] ex
def FJ{x y A B C tx ty px py}:(T.nd y A (.nd x B C (tx-ty+B.aj) px) tx py).seq=(T.nd x (.nd y A B ty py) C tx px).seq:=by
 have e1:tx-A.aj-(tx-ty+B.aj)=ty-A.aj-B.aj:=⟨"a-b-(a-c+d)=c-b-d"⟩;have e2:tx-ty+B.aj-B.aj-C.aj=tx-ty-C.aj:=⟨"a-b+c-c-d=a-b-d"⟩;simp[T.seq,j9,e1,e2]
def FK{x y A B C tx ty px py}:(T.nd y (.nd x A B (tx-ty+B.aj) px) C tx py).seq=(T.nd x A (.nd y B C ty py) tx px).seq:=by
 have e1:tx-(tx-ty+B.aj)-C.aj=ty-B.aj-C.aj:=⟨"a-(a-b+c)-d=b-c-d"⟩;have e2:tx-ty+B.aj-A.aj-B.aj=tx-A.aj-ty:=⟨"a-b+c-d-c=a-d-b"⟩;simp[T.seq,j9,e1,e2]
theorem Z.apQ{Y tr t k}(z:Z Y tr t k):t.ag.Nodup:=(dg.mp z.nd).1
def Z.o6{Y tr y A X t p k}(z:Z Y tr (.nd y A X t p) k):Z Y tr X (.R y t p A::k):=by
 obtain⟨tt,cc,nd,rr⟩:=z;exact⟨tt.2.2,⟨tt.1,tt.2.1,cc⟩,?_,rr⟩;have p1:((T.nd y A X t p).ag++ax k).Perm (X.ag++ax (.R y t p A::k)):=by
  show((A.ag++y::X.ag)++ax k).Perm (X.ag++(y::A.ag++ax k));rw[<-kJ];exact List.Perm.append_right _ ?_;have:(A.ag++y::X.ag).Perm (y::(A.ag++X.ag)):=List.perm_middle;exact this.trans ?_;have h2:(X.ag++(y::A.ag)).Perm (y::(X.ag++A.ag)):=List.perm_middle;show(List.Perm.cons _ List.perm_append_comm).trans h2.symm
 show p1.nodup_iff.mp nd
def Z.BP{Y tr y A X t p k}(z:Z Y tr X (.R y t p A::k)):Z Y tr (.nd y A X t p) k:=by
 obtain⟨tt,⟨c1,c2,c3⟩,nd,rr⟩:=z;exact⟨⟨c1,c2,tt⟩,c3,?_,rr⟩;have p1:((T.nd y A X t p).ag++ax k).Perm (X.ag++ax (.R y t p A::k)):=by
  show((A.ag++y::X.ag)++ax k).Perm (X.ag++(y::A.ag++ax k));rw[<-kJ];exact List.Perm.append_right _ ?_;have:(A.ag++y::X.ag).Perm (y::(A.ag++X.ag)):=List.perm_middle;exact this.trans ?_;have h2:(X.ag++(y::A.ag)).Perm (y::(X.ag++A.ag)):=List.perm_middle;show(List.Perm.cons _ List.perm_append_comm).trans h2.symm
 show p1.nodup_iff.mpr nd
def Z.jf{Y tr y A X t p k}(z:Z Y tr (.nd y X A t p) k):Z Y tr X (.L y t p A::k):=by
 obtain⟨tt,cc,nd,rr⟩:=z;exact⟨tt.2.1,⟨tt.1,tt.2.2,cc⟩,?_,rr⟩;have p1:(T.nd y X A t p).ag++ax k=X.ag++ax (.L y t p A::k):=by simp[T.ag,ax,kJ]
 rw[<-p1];show nd
def Z.sZ{Y tr y A X t p k}(z:Z Y tr X (.L y t p A::k)):Z Y tr (.nd y X A t p) k:=by
 obtain⟨tt,⟨c1,c2,c3⟩,nd,rr⟩:=z;exact⟨⟨c1,tt,c2⟩,c3,?_,rr⟩;have p1:(T.nd y X A t p).ag++ax k=X.ag++ax (.L y t p A::k):=by simp[T.ag,ax,kJ]
 rw[p1];show nd
def yq(h:s'.seq=s.seq):s'.ag=s.ag:=by rw[<-vq,h,vq]
def FL(h:s'.seq=s.seq):s'.aj=s.aj:=by rw[<-vr,h,vr]
def Ov(h:s'.seq=s.seq):s'.count=s.count:=by rw[<-FI,h,FI]
def BQ(h:s'.seq=s.seq)(hp:Pos s):Pos s':=by rw[vt,h];show vt.mp hp
def vw{x l r t p}:x∈(T.nd x l r t p).ag:=by simp[T.ag]
def Z.og{Y tr t k c}(z:Z Y tr t k)(h:∀cl fs,Y c≠some (.inst cl fs)):c∉t.ag/\c∉ax k/\c≠tr:=by
 exact⟨λm=>?_,λm=>?_,λe=>?_⟩
 ·obtain⟨_,_,_,_,_,e⟩:=z.tt.at_ c m;show h _ _ e
 ·obtain⟨_,_,_,_,_,e⟩:=CR.at_ z.cc c m;show h _ _ e
 ·rw[e] at h;show h _ _ z.rr
def Z.put{Y tr t k c}(z:Z Y tr t k)(h:∀cl fs,Y c≠some (.inst cl fs)):Z (Tactic.put Y c o) tr t k:=by
 obtain⟨h1,h2,h3⟩:=z.og h;show⟨z.tt.congr λb hb=>ae (dv h1 hb),z.cc.congr λb hb=>ae (dv h2 hb),z.nd,(ae (aaa h3)).trans z.rr⟩
theorem ap5{a x:Int}{D:Nat}(h1:0<a)(h2:(x.natAbs:Int)<a)(h:a.natAbs<=D):x.natAbs<D:=⟨"A>B,'A<a,'C=a,C.B;1,1,-1,1",h2,Int.natAbs_of_nonneg (il h1),h⟩
def apH{a c d:Int}{D:Nat}(h1:0<b-a)(h2:((d-c).natAbs:Int)<b-a)(h:(a-b).natAbs<=D):(c-d).natAbs<D:=by
 rw[show(c-d).natAbs=(d-c).natAbs by rw[<-Int.natAbs_neg,Int.neg_sub]];show⟨"A>B,'A<b-a,'C=b-a,C.B;1,1,-1,1",h2,show((a-b).natAbs:Int)=b-a by rw[<-Int.natAbs_neg,Int.neg_sub];show Int.natAbs_of_nonneg (il h1),h⟩
abbrev Ow:E:=.cmp .gt (.bi .len [.v 113]) (.cI 0)
abbrev yr:List Sm:=[.asg (.v 114) (.fG (.cmp .is (.v 112) (.v 114)) (.v 110) (.v 114)),.ex (.lm .extend (.v 113) [.list [.v 110,.v 112]])]
abbrev aqg:List Sm:=[.asg (.v 112) (.lm .pop (.v 113) []),.iff (.call 73 [.v 112]) (.asg (.v 110) (.call 74 [.v 58,.v 112])::yr) [.iff (.call 75 [.v 112]) (.asg (.v 110) (.call 76 [.v 58,.v 112])::yr) []]]
def aih{n Q X}{P:Env->So->Prop}{w ta x:Nat}{rest:List V}(hx:∃c fs,Y x=some (.inst c fs))(ht:∃c fs,Y ta=some (.inst c fs))(hw:Y w=some (.lst rest))(hl:rest.length+2<100000)
  (fin:∀c m',Y c=none->c≠w->Sh tr x0 w (if ta=x then y else ta) m'->P m' (put (put Y c (.lst [.ref y,.ref x])) w (.lst (rest++[.ref y,.ref x])))) :
  wSs (Wn n) yr [(58,.ref tr),(93,.ref x0),(113,.ref w),(114,.ref ta),(112,.ref x),(110,.ref y)] P Q X Y:=by
 obtain⟨c1,f1,hx⟩:=hx;obtain⟨c2,f2,ht⟩:=ht;have go:∀o7,o7=(if ta=x then y else ta)->wSs (Wn n) [.ex (.lm .extend (.v 113) [.list [.v 110,.v 112]])] [(58,.ref tr),(93,.ref x0),(113,.ref w),(114,.ref o7),(112,.ref x),(110,.ref y)] P Q X Y:=by
  intro o7 e
  exists hw
  intro c hc;have cw:c≠w:=λe=>by nomatch e,hw,hc
  conv=>whnf
  rw[(ae (aaa cw)).trans hw,ah];show⟨aaa cw,hl,fin c _ hc cw ⟨[(112,_),(110,_)],by rw[e],⟨[_,_],rfl⟩⟩⟩
 show sS hx ht (λe=>go y (by rw[if_pos e.symm])) (λe=>go ta (by rw[if_neg (aaa e)]))
def ahh{n Q}{P:Env->So->Prop}{K:Bool->So->Prop}{w ta x:Nat}{rest:List V}{r:T}{t:Int}{p:Nat}{k:List F1}(ti:Sh tr x0 w ta m)(hw:Y w=some (.lst (rest++[.ref x])))(z1:Z (put Y w (.lst rest)) tr (.nd x l r t p) k)(aI:Pos (.nd x l r t p))
  (hR:∀y A B ty py,l=.nd y A B ty py->BM (.nd x l r t p)->∀m',m'=[(58,.ref tr),(93,.ref x0),(113,.ref w),(114,.ref ta),(112,.ref x),(110,.ref y)]->∀Y',Z Y' tr (.nd y A (.nd x B r (t-ty+B.aj) p) t py) k->(∀b,b∉(T.nd x l r t p).ag->b∉ax k->b≠tr->Y' b=put Y w (.lst rest) b)->wSs (Wn (n+2)) yr m' P Q aN Y')
  (hL:∀y B C ty py,r=.nd y B C ty py->vp (.nd x l r t p)->∀m',m'=[(58,.ref tr),(93,.ref x0),(113,.ref w),(114,.ref ta),(112,.ref x),(110,.ref y)]->∀Y',Z Y' tr (.nd y (.nd x l B (t-ty+B.aj) p) C t py) k->(∀b,b∉(T.nd x l r t p).ag->b∉ax k->b≠tr->Y' b=put Y w (.lst rest) b)->wSs (Wn (n+2)) yr m' P Q aN Y')
  (tj:∀m',Sh tr x0 w ta m'->P m' (put Y w (.lst rest)))
  (hK:∀s,wSs (Wn (n+2)) aqg m P Q aN s->K true s):wB (Wn (n+2)) Ow m (wE (Wn (n+2)) Ow m) K aN Y:=by
 have e:decide ((0:Int)<((rest++[V.ref x]).length:Int))=true:=dJ (by simp);obtain⟨ex,rfl,hx⟩:=ti;obtain⟨e1,h1,u1⟩:=hx.up
 exists hw
 exact(congrArg (λb=>K b Y) e).mpr (hK _ ?_)
 exists hw
 exists hw
 exact⟨rest,.ref x,rfl,?_⟩;show wSs (Wn (n+2)) _ (yp tr x0 w ta (Tactic.up ex 112 (.ref x))) P Q aN _;rw[u1];exact aic z1.tt aI (λhh=>?_) (λhh=>?_)
 ·clear hL aI;cases l with
  |nil=>show hh.elim
  |nd y A B ty py=>exact ajb z1 λY2 z2 f2=>hR y A B ty py rfl hh (yp tr x0 w ta ((112,.ref x)::Tactic.up e1 110 (.ref y))) (by rw[h1.up1]) Y2 z2 f2
 ·exact aiI z1.tt aI (λFN=>?_) (λFN=>?_)
  ·clear hR hh aI;cases r with
   |nil=>show(Ou FN).elim
   |nd y B C ty py=>exact akf z1 λY2 z2 f2=>hL y B C ty py rfl FN (yp tr x0 w ta ((112,.ref x)::Tactic.up e1 110 (.ref y))) (by rw[h1.up1]) Y2 z2 f2
  ·show tj (yp tr x0 w ta ((112,.ref x)::e1)) ⟨_,rfl,h1.cons⟩
def settle{n Q X}{l0 r0:T}{t0:Int}{p0:Nat}{k0:List F1}(z:Z Y tr (.nd x0 l0 r0 t0 p0) k0)(hp:Pos (.nd x0 l0 r0 t0 p0))(tm:(T.nd x0 l0 r0 t0 p0).count<=1000)
  (hq:∀Y' s',Z Y' tr s' k0->s'.seq=(T.nd x0 l0 r0 t0 p0).seq->(∀b o,Y b=some o->b∉(T.nd x0 l0 r0 t0 p0).ag->b∉ax k0->b≠tr->Y' b=some o)->Q s'.root Y'):(Wn (n+3)).call 72 [.ref tr,.ref x0] Q X Y:=by
 exact en (fd:=JX) rfl ?_;intro w hw P hP;have key:∀(N D:Nat) (x:Nat) (l r:T) (t:Int) (p:Nat) (k:List F1) (Y:So) (rest:List V) (ta:Nat) (m:Env),(T.nd x l r t p).count<=N->sY (.nd x l r t p)<=D->Pos (.nd x l r t p)->Z Y tr (.nd x l r t p) k->Y w=some (.lst (rest++[.ref x]))->rest.length+N<=5000->(ta=x\/ta∈ax k)->Sh tr x0 w ta m ->
   (∀s' Y' m' o7,Z Y' tr s' k->s'.seq=(T.nd x l r t p).seq->Y' w=some (.lst rest)->(ta=x->.ref o7=s'.root)->(ta≠x->o7=ta)->Sh tr x0 w o7 m'->(∀b o,Y b=some o->b∉(T.nd x l r t p).ag->b∉ax k->b≠tr->b≠w->Y' b=some o)->P m' Y')->P m Y:=by
  intro N;induction N with
  |zero=>intro D x l r t p k Y rest ta m hN;simp[T.count] at hN
  |succ N Ox=>
   intro D;induction D using Nat.strongRecOn with
   |ind D Oy=>
    intro x l r t p k Y rest ta m hN hD aI z hw hlen jg ti cont;obtain⟨tt,cc,nd,rr⟩:=id z;have hx:=tt.1;obtain⟨x1,x2,x3,n1,n2,n3,d1,d2⟩:=iP nd;have wx:w≠x:=λe=>by nomatch e,hx,hw
    have Oz:w≠tr:=λe=>by nomatch e,rr,hw
    have wt:w∉(T.nd x l r t p).ag:=λh=>by
     obtain⟨_,_,_,_,_,e⟩:=tt.at_ w h
     nomatch e,hw
    have wk:w∉ax k:=λh=>by
     obtain⟨_,_,_,_,_,e⟩:=CR.at_ cc w h
     nomatch e,hw
    have FP:∃c fs,Y ta=some (.inst c fs):=by
     rcases jg with e | h
     ·show⟨_,_,(congrArg Y e).trans hx⟩
     ·obtain⟨_,_,_,_,_,e⟩:=CR.at_ cc ta h;show⟨_,_,e⟩
    have z1:Z (put Y w (.lst rest)) tr (.nd x l r t p) k:=⟨tt.congr λb hb=>ae (dv wt hb),CR.congr cc λb hb=>ae (dv wk hb),nd,(ae (aaa Oz)).trans rr⟩;have far1:∀b,b≠w->put Y w (.lst rest) b=Y b:=λb hb=>ae hb;have tj:∀m',Sh tr x0 w ta m'->P m' (put Y w (.lst rest)):=λm' fK=>
     cont _ _ m' ta z1 rfl ah (λe=>by rw[e];rfl) (λ_=>rfl) fK λb o hb _ _ _ hbw=>(ae hbw).trans hb
    have qA:∀y A B ty py,l=.nd y A B ty py->BM (.nd x l r t p)->∀Y2,Z Y2 tr (.nd y A (.nd x B r (t-ty+B.aj) p) t py) k->Y2 w=some (.lst (rest++[.ref y,.ref x]))->(∀b o,Y b=some o->b∉(T.nd x l r t p).ag->b∉ax k->b≠tr->b≠w->Y2 b=some o)->∀m',Sh tr x0 w (if ta=x then y else ta) m'->P m' Y2:=by
     intro y A B ty py hl hh Y2 z2 vx f2 m' fK;clear cc hx nd rr tt wt z z1;subst hl;have lV:Pos (.nd y A (.nd x B r (t-ty+B.aj) p) t py):=BQ FJ aI;have lW:Pos (.nd x B r (t-ty+B.aj) p):=lV.2.2;have cnt:(T.nd x (.nd y A B ty py) r t p).count=A.count+B.count+1+r.count+1:=rfl;have cX:(T.nd x B r (t-ty+B.aj) p).count=B.count+r.count+1:=rfl;have yx:y≠x:=λe=>x1 (by rw[<-e];show vw);exact Ox (sY (.nd x B r (t-ty+B.aj) p)) x B r _ p (.R y t py A::k) Y2 (rest++[.ref y]) (if ta=x then y else ta) m' (by rw[cX];rw[cnt] at hN;show⟨"A+B+1.C,D+A+1+B+1.C+1",hN⟩) (ip _) lW z2.o6 (by rw[vx];simp) (by simp;show⟨"A+1+B.5000,A+(B+1).5000",hlen⟩) ?_ fK ?_
     ·right;split
      ·simp[ax,F1.a]
      ·rename_i au;rcases jg with h | h
       ·show absurd h au
       ·simp[ax,h]
     ·intro X' Y3 m3 ta3 z3 vy FQ _ tq tu f3;have FT:(if ta=x then y else ta)≠x:=by
       split
       ·show yx
       ·assumption
      have tv:=tq FT;subst tv;have tX:X'.aj=t-ty+B.aj:=(FL vy).trans rfl;have FU:Z Y3 tr (.nd y A X' t py) k:=z3.BP;have gY:(T.nd y A X' t py).seq=(T.nd x (.nd y A B ty py) r t p).seq:=by
       rw[<-FJ];simp only[T.seq,vy,tX,j9]
      have lX:Pos (.nd y A X' t py):=BQ gY aI;have yt:0<ty-r.aj/\((A.aj-(t-ty+B.aj)).natAbs:Int)<ty-r.aj:=hh;have im:sY (.nd y A X' t py)<D:=ap5 yt.1 (by rw[tX];show yt.2) hD;have hX:X'.ag=(T.nd x B r (t-ty+B.aj) p).ag:=yq vy;exact Oy (sY (.nd y A X' t py)) im y A X' t py k Y3 rest (if ta=x then y else ta) m3 (by rw[Ov gY];show hN) (ip _) lX FU FQ hlen ?_ tu ?_
      ·split
       ·show .inl rfl
       ·rename_i au;show .inr (jg.resolve_left au)
      ·intro s4 Y4 m4 FV z4 FW FX FY FZ tB f4;exact cont s4 Y4 m4 FV z4 (FW.trans gY) FX (λe=>FY (by rw[if_pos e])) (λe=>?_) tB λb o hb h1 h2 h3 h4=>?_
       ·have:=FZ (by
         rw[if_neg e];intro e2;rcases jg with h | h
         ·show e h
         ·show(d1 y (by show vw)).2 (e2 ▸ h))
        rw[this,if_neg e]
       ·have jD:=f2 b o hb h1 h2 h3 h4;have tD:b∉(T.nd y A (.nd x B r (t-ty+B.aj) p) t py).ag:=by rw[yq FJ];show h1
        have fO:=f3 b o jD (λh=>tD (by
         show b∈A.ag++y::(T.nd x B r (t-ty+B.aj) p).ag;show iJ _ (.tail _ h))) (by
          intro h;rcases bH.mp (show b∈(y::A.ag)++ax k from h) with h | h
          ·rcases aO.mp h with h | h
           ·show tD (by rw[h];show vw)
           ·show tD (gQ _ h)
          ·show h2 h) h3 h4
        show f4 b o fO (by rw[yq gY];show h1) h2 h3 h4
    have yu:∀y B C ty py,r=.nd y B C ty py->vp (.nd x l r t p)->∀Y2,Z Y2 tr (.nd y (.nd x l B (t-ty+B.aj) p) C t py) k->Y2 w=some (.lst (rest++[.ref y,.ref x]))->(∀b o,Y b=some o->b∉(T.nd x l r t p).ag->b∉ax k->b≠tr->b≠w->Y2 b=some o)->∀m',Sh tr x0 w (if ta=x then y else ta) m'->P m' Y2:=by
     intro y B C ty py hl hh Y2 z2 vx f2 m' fK;clear cc d1 hx nd rr tt qA wt z z1;subst hl;have lV:Pos (.nd y (.nd x l B (t-ty+B.aj) p) C t py):=BQ FK aI;have lW:Pos (.nd x l B (t-ty+B.aj) p):=lV.2.1;have cnt:(T.nd x l (.nd y B C ty py) t p).count=l.count+(B.count+C.count+1)+1:=rfl;have cX:(T.nd x l B (t-ty+B.aj) p).count=l.count+B.count+1:=rfl;have yx:y≠x:=λe=>x2 (by rw[<-e];show vw);exact Ox (sY (.nd x l B (t-ty+B.aj) p)) x l B _ p (.L y t py C::k) Y2 (rest++[.ref y]) (if ta=x then y else ta) m' (by rw[cX];rw[cnt] at hN;show⟨"A+B+1.C,A+(B+D+1)+1.C+1",hN⟩) (ip _) lW z2.jf (by rw[vx];simp) (by simp;show⟨"A+1+B.5000,A+(B+1).5000",hlen⟩) ?_ fK ?_
     ·right;split
      ·simp[ax,F1.a]
      ·rename_i au;rcases jg with h | h
       ·show absurd h au
       ·simp[ax,h]
     ·intro X' Y3 m3 ta3 z3 vy FQ _ tq tu f3;have FT:(if ta=x then y else ta)≠x:=by
       split
       ·show yx
       ·assumption
      have tv:=tq FT;subst tv;have tX:X'.aj=t-ty+B.aj:=(FL vy).trans rfl;have FU:Z Y3 tr (.nd y X' C t py) k:=z3.sZ;have gY:(T.nd y X' C t py).seq=(T.nd x l (.nd y B C ty py) t p).seq:=by
       rw[<-FK];simp only[T.seq,vy,tX,j9]
      have lX:Pos (.nd y X' C t py):=BQ gY aI;have yt:0<ty-l.aj/\((C.aj-(t-ty+B.aj)).natAbs:Int)<ty-l.aj:=Ot.mp hh;have im:sY (.nd y X' C t py)<D:=apH yt.1 (by rw[tX];show yt.2) hD;exact Oy (sY (.nd y X' C t py)) im y X' C t py k Y3 rest (if ta=x then y else ta) m3 (by rw[Ov gY];show hN) (ip _) lX FU FQ hlen ?_ tu ?_
      ·split
       ·show .inl rfl
       ·rename_i au;show .inr (jg.resolve_left au)
      ·intro s4 Y4 m4 FV z4 FW FX FY FZ tB f4;exact cont s4 Y4 m4 FV z4 (FW.trans gY) FX (λe=>FY (by rw[if_pos e])) (λe=>?_) tB λb o hb h1 h2 h3 h4=>?_
       ·have:=FZ (by
         rw[if_neg e];intro e2;rcases jg with h | h
         ·show e h
         ·show d2 y vw (e2 ▸ h))
        rw[this,if_neg e]
       ·have jD:=f2 b o hb h1 h2 h3 h4;have tD:b∉(T.nd y (.nd x l B (t-ty+B.aj) p) C t py).ag:=by rw[yq FK];show h1
        have fO:=f3 b o jD (λh=>tD (by
         show b∈(T.nd x l B (t-ty+B.aj) p).ag++y::C.ag;show gQ _ h)) (by
          intro h;rcases bH.mp (show b∈(y::C.ag)++ax k from h) with h | h
          ·rcases aO.mp h with h | h
           ·show tD (by rw[h];show vw)
           ·show tD (iJ _ (.tail _ h))
          ·show h2 h) h3 h4
        show f4 b o fO (by rw[yq gY];show h1) h2 h3 h4
    exact hP _ _ ?_;exact ahh ti hw z1 aI (λy A B ty py hl hh m' fK Y2 z2 f2=>?_) (λy B C ty py hl hh m' fK Y2 z2 f2=>?_) tj λs h=>h
    all_goals
     subst hl fK;have vx:Y2 w=some (.lst rest):=(f2 w wt wk Oz).trans ah;have F3:∃c fs,Y2 ta=some (.inst c fs):=by
      rcases jg with e | h
      ·first
       |show⟨_,_,(congrArg Y2 e).trans z2.tt.2.2.1⟩
       |show⟨_,_,(congrArg Y2 e).trans z2.tt.2.1.1⟩
      ·obtain⟨_,_,_,_,_,e⟩:=CR.at_ z2.cc ta h;show⟨_,_,e⟩
     exact aih (by first | show⟨_,_,z2.tt.2.2.1⟩ | show⟨_,_,z2.tt.2.1.1⟩) F3 vx ⟨"A+2>100000,A+(B+1).5000",hlen⟩ λc m' hc cw fK=>?_
     have Z2:Z (put (put Y2 c (.lst [.ref y,.ref x])) w (.lst (rest++[.ref y,.ref x]))) tr _ k:=(z2.put λ_ _=>by rw[hc];intro h;cases h).put λ_ _=>by rw[ae (aaa cw),vx];intro h;cases h
     have F2:∀b o,Y b=some o->b∉(T.nd x _ _ t p).ag->b∉ax k->b≠tr->b≠w->put (put Y2 c (.lst [.ref y,.ref x])) w (.lst (rest++[.ref y,.ref x])) b=some o:=λb o hb h1 h2 h3 h4=>by
      have hbc:b≠c:=λe=>by
       have:=f2 b h1 h2 h3;rw[e,hc,<-e,ae h4,hb] at this;cases this
      rw[ae h4,ae hbc,f2 b h1 h2 h3,ae h4];show hb
    ·show qA y A B ty py rfl hh _ Z2 ah F2 _ fK
    ·show yu y B C ty py rfl hh _ Z2 ah F2 _ fK
 have OB:∀cl fs,Y w≠some (.inst cl fs):=λcl fs e=>by nomatch hw,e
 obtain⟨w1,w2,w3⟩:=z.og OB;exact key _ _ x0 l0 r0 t0 p0 k0 (put Y w (.lst [.ref x0])) [] x0 _ (ip _) (ip _) hp (z.put OB) ah (by simp;show⟨"A.5000,A.1000",tm⟩) (.inl rfl) ⟨[],rfl,.none _⟩ λs' Y' m' o7 z' o9 aU h1 _ ti f'=>?_;have yv:=h1 rfl;have fin:Q (.ref o7) Y':=by
  rw[yv];show hq Y' s' z' o9 λb o hb a1 a2 a3=>f' b o ((ae (λe=>by nomatch e,hw,hb)).trans hb) a1 a2 a3 λe=>by nomatch e,hw,hb
 obtain⟨ex,rfl,hx⟩:=ti;exact hP _ _ ?_
 exists aU
 show fin
abbrev Nd:=Nat×Int×Nat
def dw:Int->List F1->List Nd
 |_,[]=>[]
 |_,.L a t p r::k=>dw t k
 |c,.R a t p l::k=>dw t k++l.seq++[(a,t-l.aj-c,p)]
def eT:Int->List F1->List Nd
 |_,[]=>[]
 |c,.L a t p r::k=>(a,t-c-r.aj,p)::r.seq++eT t k
 |_,.R a t p l::k=>eT t k
def aY(t:T)(k:List F1):List Nd:=dw t.aj k++t.seq++eT t.aj k
def tH:∀(k:List F1) (t:T),(cW t k).seq=aY t k:=by
 intro zl;induction zl with
 |nil=>
  intro t;simp[aY,dw,eT,cW]
 |cons zx k ih=>
  cases zx with
  |L a n p r=>
   intro t;rw[show cW t (.L a n p r::k)=cW (.nd a t r n p) k from rfl,ih];simp[aY,dw,eT,T.seq,j9]
  |R a n p l=>
   intro t;rw[show cW t (.R a n p l::k)=cW (.nd a l t n p) k from rfl,ih];simp[aY,dw,eT,T.seq,j9]
def F4{a n p r k t}:aY t (.L a n p r::k)=aY (.nd a t r n p) k:=by simp[aY,dw,eT,T.seq,j9]
def F5{a n p l k t}:aY t (.R a n p l::k)=aY (.nd a l t n p) k:=by simp[aY,dw,eT,T.seq,j9]
def BR(m:Int):∀(k:List F1) (c:Int),dw (c+m) (cY m k)=dw c k:=by
 intro zl;induction zl with
 |nil=>
  intro _;show rfl
 |cons zx k ih=>
  cases zx with
  |L a t p r=>
   intro c;show ih t
  |R a t p l=>
   intro c;show dw (t+m) (cY m k)++l.seq++[(a,t+m-l.aj-(c+m),p)]=dw t k++l.seq++[(a,t-l.aj-c,p)];rw[ih t];have:t+m-l.aj-(c+m)=t-l.aj-c:=⟨"a+b-c-(d+b)=a-c-d"⟩;rw[this]
def BU(m:Int):∀(k:List F1) (c:Int),eT (c+m) (cY m k)=eT c k:=by
 intro zl;induction zl with
 |nil=>
  intro _;show rfl
 |cons zx k ih=>
  cases zx with
  |R a t p r=>
   intro c;show ih t
  |L a t p r=>
   intro c;show(a,t+m-(c+m)-r.aj,p)::r.seq++eT (t+m) (cY m k)=(a,t-c-r.aj,p)::r.seq++eT t k;rw[ih t];have:t+m-(c+m)-r.aj=t-c-r.aj:=⟨"a+b-(c+b)-d=a-c-d"⟩;rw[this]
def anq{Y tr}:∀(k:List F1) (t:T),Z Y tr t k->Z Y tr (cW t k) []:=by
 intro zl;induction zl with
 |nil=>
  intro t z;show z
 |cons zx k ih=>
  cases zx with
  |L a n p r=>
   intro t z;show ih (.nd a t r n p) z.sZ
  |R a n p l=>
   intro t z;show ih (.nd a l t n p) z.BP
def aov{Y tr}:∀(k:List F1) (t:T),Z Y tr (cW t k) []->Z Y tr t k:=by
 intro zl;induction zl with
 |nil=>
  intro t z;show z
 |cons zx k ih=>
  cases zx with
  |L a n p r=>
   intro t z;show(ih (.nd a t r n p) z).jf
  |R a n p l=>
   intro t z;show(ih (.nd a l t n p) z).o6
theorem Z.F6{Y tr k t}(z:Z Y tr t k):Z Y tr (cW t k) []:=anq k t z
theorem Z.OD{Y tr k t}(z:Z Y tr (cW t k) []):Z Y tr t k:=aov k t z
def vz:∀(k:List F1) (t:T),∀b,b∈(cW t k).ag↔b∈t.ag\/b∈ax k:=by
 intro zl;induction zl with
 |nil=>
  intro t b;simp[cW,ax]
 |cons zx k ih=>
  cases zx with
  |L a n p r=>
   intro t b;rw[show cW t (.L a n p r::k)=cW (.nd a t r n p) k from rfl,ih];simp[T.ag,ax,or_assoc]
  |R a n p l=>
   intro t b;rw[show cW t (.R a n p l::k)=cW (.nd a l t n p) k from rfl,ih];simp[T.ag,ax];constructor
   ·rintro((h | h | h) | h)<;>simp[h]
   ·rintro(h | h | h | h)<;>simp[h]
inductive Tree(Y:So)(tr:Nat)(sq:List Nd):Prop
 |mk (t:T) (h0:Z Y tr t []) (h1:t.seq=sq) (h2:∀e∈sq,0<e.2.1):Tree Y tr sq
theorem Tree.yw{Y tr t k}(z:Z Y tr t k)(h:∀e∈aY t k,0<e.2.1):Tree Y tr (aY t k):=⟨cW t k,z.F6,tH k t,h⟩
def fu(sq:List Nd):List Nat:=sq.map (·.1)
def OG{k:List F1}{b:Nat}:b∈fu (aY t k)↔b∈t.ag\/b∈ax k:=by
 unfold fu;rw[<-tH,vq,vz]
theorem F7:∀(t:T) (a:Nat),a∈t.ag->∃l r n p k,t=cW (.nd a l r n p) k
 | .nd b l r n p,a,h=>by
  rcases bH.mp (show a∈l.ag++b::r.ag from h) with h | h
  ·obtain⟨l',r',n',p',k,e⟩:=F7 l a h;exact⟨l',r',n',p',k++[.L b n p r],?_⟩;have:∀(k:List F1) (t:T),cW t (k++[.L b n p r])=.nd b (cW t k) r n p:=by
    intro k;induction k with
    |nil=>intro t;rfl
    |cons f k ih=>intro t;cases f<;>show ih _
   rw[this,<-e]
  ·rcases aO.mp h with rfl | h
   ·show⟨l,r,n,p,[],rfl⟩
   ·obtain⟨l',r',n',p',k,e⟩:=F7 r a h;exact⟨l',r',n',p',k++[.R b n p l],?_⟩;have:∀(k:List F1) (t:T),cW t (k++[.R b n p l])=.nd b l (cW t k) n p:=by
     intro k;induction k with
     |nil=>intro t;rfl
     |cons f k ih=>intro t;cases f<;>show ih _
    rw[this,<-e]
def ahY{A A' B B':List Nd}{x x':Nd}(h:A++x::B=A'++x'::B')(nd:(fu (A++x::B)).Nodup)(e:x.1=x'.1):A=A'/\x=x'/\B=B':=by
 induction A generalizing A' with
 |nil=>
  cases A' with
  |nil=>injection h with h1 h2;show⟨rfl,h1,h2⟩
  |cons y A'=>
   exfalso;have h':x::B=y::(A'++x'::B'):=h;injection h' with h1 h2;have bC:(x.1::fu B).Nodup:=nd;rw[bS] at bC;exact bC.1 ?_;rw[h2];simp[fu,e]
 |cons y A ih=>
  cases A' with
  |nil=>
   exfalso;have h':y::(A++x::B)=x'::B':=h;injection h' with h1 h2;have bC:(y.1::fu (A++x::B)).Nodup:=nd;rw[bS] at bC;exact bC.1 ?_;rw[h1,<-e];simp[fu]
  |cons z A'=>
   have h':y::(A++x::B)=z::(A'++x'::B'):=h;injection h' with h1 h2;have bC:(y.1::fu (A++x::B)).Nodup:=nd;rw[bS] at bC;obtain⟨a,b,c⟩:=ih h2 bC.2;show⟨by rw[h1,a],b,c⟩
def Tree.nodup{Y tr sq}(h:Tree Y tr sq):(fu sq).Nodup:=by
 obtain⟨t,z,rfl,_⟩:=h;unfold fu;rw[vq];show z.apQ
def Tree.at_{Y tr A B}{x n p}(h:Tree Y tr (A++(x,n,p)::B)):∃l r t k,Z Y tr (.nd x l r t p) k/\n=t-l.aj-r.aj/\A=dw t k++l.seq/\B=r.seq++eT t k:=by
 have nd:=h.nodup;obtain⟨t,z,e,_⟩:=h;have hx:x∈t.ag:=by rw[<-vq,e];simp
 obtain⟨l,r,n',p',k,rfl⟩:=F7 t x hx;have e':(dw n' k++l.seq)++(x,n'-l.aj-r.aj,p')::(r.seq++eT n' k)=A++(x,n,p)::B:=by
  rw[<-e,tH];simp[aY,T.seq,j9]
 obtain⟨h1,h2,h3⟩:=ahY e'.symm nd rfl;injection h2 with h2a F8;injection F8 with F8 h2c;clear e e' hx;subst h2c;show⟨l,r,n',k,z.OD,F8,h1,h3⟩
def vA{x l r t p k}:aY (.nd x l r t p) k=(dw t k++l.seq)++(x,t-l.aj-r.aj,p)::(r.seq++eT t k):=by simp[aY,T.seq,j9]
def Tree.pos{Y tr sq}(h:Tree Y tr sq):∀e∈sq,0<e.2.1:=by obtain⟨_,_,_,h⟩:=h;show h
theorem Z.fr{Y Y' tr t k}(z:Z Y tr t k)(f:∀b∈t.ag,Y' b=Y b)(g:∀b∈ax k,Y' b=Y b)(h:Y' tr=Y tr):Z Y' tr t k:=⟨z.tt.congr f,z.cc.congr g,z.nd,h.trans z.rr⟩
def Tree.fr{Y Y' tr sq}(h:Tree Y tr sq)(f:∀b∈fu sq,Y' b=Y b)(g:Y' tr=Y tr):Tree Y' tr sq:=by
 obtain⟨t,z,rfl,hp⟩:=h;show⟨t,z.fr (λb hb=>f b (by unfold fu;rw[vq];show hb)) (λb hb=>by cases hb) g,rfl,hp⟩
def Tree.put{Y tr sq c}(h:Tree Y tr sq)(hc:∀cl fs,Y c≠some (.inst cl fs)):Tree (Tactic.put Y c o) tr sq:=by
 obtain⟨t,z,e,hp⟩:=h;show⟨t,z.put hc,e,hp⟩
def Tree.node{Y tr A B x n p}(h:Tree Y tr (A++(x,n,p)::B)):∃t l r q,Y x=some (nO t p l r q):=by
 obtain⟨l,r,t,k,z,_⟩:=h.at_;show⟨_,_,_,_,z.tt.1⟩
def pg{sq:List Nd}{b:Nat}(h:b∈fu sq):∃A B n p,sq=A++(b,n,p)::B:=by
 obtain⟨e,he,rfl⟩:=bJ.mp h;obtain⟨A,B,rfl⟩:=List.append_of_mem he;show⟨A,B,e.2.1,e.2.2,rfl⟩
def yy{k Q X Y tr A B x n p}(h:Tree Y tr (A++(x,n,p)::B))(hq:Q (.int n) Y):(Wn (k+2)).call 48 [.ref x] Q X Y:=by
 obtain⟨l,r,t,c,z,rfl,_,_⟩:=h.at_;show Fx z.tt hq
def jh:List Nd->V
 | []=>.none
 |e::_=>.ref e.1
def kf(l:List Nd):V:=jh l.reverse
def dy:T->List F1->List F1
 | .nil,k=>k
 | .nd a l r t p,k=>dy l (.L a t p r::k)
def tJ:T->List F1->List F1
 | .nil,k=>k
 | .nd a l r t p,k=>tJ r (.R a t p l::k)
def Z.lm{Y tr}:∀(t:T) (k:List F1),Z Y tr t k->Z Y tr .nil (dy t k):=by
 intro zl;induction zl with
 |nil=>
  intro k z;show z
 |nd a l r t p dD fN=>
  intro k z;show dD _ z.jf
def Z.rm{Y tr}:∀(t:T) (k:List F1),Z Y tr t k->Z Y tr .nil (tJ t k):=by
 intro zl;induction zl with
 |nil=>
  intro k z;show z
 |nd a l r t p dD fN=>
  intro k z;show fN _ z.o6
def F9:∀(t:T) (k:List F1),cW .nil (dy t k)=cW t k:=by
 intro zl;induction zl with
 |nil=>
  intro k;show rfl
 |nd a l r t p dD fN=>
  intro k;show dD _
def Ga{a b:List Nd}(h:a≠[]):jh (a++b)=jh a:=by cases a with | nil=>show absurd rfl h | cons _ _=>rfl
def Gb:∀(l:T) (a:Nat) (r:T) (t:Int) (p:Nat) (k:List F1),cV (dy (.nd a l r t p) k)=jh (T.nd a l r t p).seq:=by
 intro zl;induction zl with
 |nil=>
  intro a r t p k;show rfl
 |nd b l' r' t' p' dD fN=>
  intro a r t p k;rw[show dy (.nd a (.nd b l' r' t' p') r t p) k=dy (.nd b l' r' t' p') (.L a t p r::k) from rfl,dD];show _=jh ((T.nd b l' r' t' p').seq++_);rw[Ga];simp[T.seq]
def BV{a b:List Nd}(h:b≠[]):kf (a++b)=kf b:=by
 unfold kf;rw[List.reverse_append,Ga]
 simpa using h
def anh:∀(r:T) (a:Nat) (l:T) (t:Int) (p:Nat) (k:List F1),cV (tJ (.nd a l r t p) k)=kf (T.nd a l r t p).seq:=by
 intro zl;induction zl with
 |nil=>
  intro a l t p k;show V.ref a=kf (l.seq++[(a,t-l.aj-0,p)]);rw[BV (by simp)];rfl
 |nd b l' r' t' p' dD fN=>
  intro a l t p k;rw[show tJ (.nd a l (.nd b l' r' t' p') t p) k=tJ (.nd b l' r' t' p') (.R a t p l::k) from rfl,fN];show _=kf (l.seq++((a,_,p)::(T.nd b l' r' t' p').seq))
  rewrite [BV (by simp),show((a,t-l.aj-T.aj (.nd b l' r' t' p'),p)::(T.nd b l' r' t' p').seq)=[(a,t-l.aj-T.aj (.nd b l' r' t' p'),p)]++(T.nd b l' r' t' p').seq from rfl,BV]
  rfl;simp[T.seq]
def Gd{n Q X Y tr x l r t p k}(z:Z Y tr (.nd x l r t p) k)(hq:Q (cV (dy (.nd x l r t p) k)) Y):(Wn (n+1)).call 57 [.ref x] Q X Y:=by
 exact en (fd:=JL) rfl ?_;intro P hP;have key:∀(l:T) (x:Nat) (r:T) (t:Int) (p:Nat) (k:List F1),Z Y tr (.nd x l r t p) k->Q (cV (dy (.nd x l r t p) k)) Y->P [(93,.ref x)] Y:=by
  intro l;induction l with
  |nil=>
   intro x r t p k z hq;exact hP _ _ ?_;exact d9 z.tt.1 ?_;show hq
  |nd y l' r' t' p' ih _=>
   intro x r t p k z hq;exact hP _ _ ?_;exact d9 z.tt.1 ?_;exact d9 z.tt.1 ?_;show ih y r' t' p' _ z.jf hq
 show key l x r t p k z hq
def aiE{n Q X Y tr x l r t p k}(z:Z Y tr (.nd x l r t p) k)(hq:Q (cV (tJ (.nd x l r t p) k)) Y):(Wn (n+1)).call 70 [.ref x] Q X Y:=by
 exact en (fd:=JW) rfl ?_;intro P hP;have key:∀(r:T) (x:Nat) (l:T) (t:Int) (p:Nat) (k:List F1),Z Y tr (.nd x l r t p) k->Q (cV (tJ (.nd x l r t p) k)) Y->P [(93,.ref x)] Y:=by
  intro r;induction r with
  |nil=>
   intro x l t p k z hq;exact hP _ _ ?_;exact ef z.tt.1 ?_;show hq
  |nd y l' r' t' p' _ ih=>
   intro x l t p k z hq;exact hP _ _ ?_;exact ef z.tt.1 ?_;exact ef z.tt.1 ?_;show ih y l' t' p' _ z.o6 hq
 show key r x l t p k z hq
def ahl{n Q X Y tr x l r t p k}(z:Z Y tr (.nd x l r t p) k)(hq:Q (jh (r.seq++eT t k)) Y):(Wn (n+2)).call 53 [.ref x] Q X Y:=by
 exact en (fd:=JG) rfl ?_;exact ef z.tt.1 ?_;cases r with
 |nd y l' r' t' p'=>
  exact ef z.tt.1 ?_;exact Gd z.o6 ?_;rw[Gb]
  rewrite [Ga (by simp[T.seq])] at hq
  show hq
 |nil=>
  intro P hP;have key:∀(k:List F1) (x:Nat) (l r:T) (t:Int) (p:Nat),Z Y tr (.nd x l r t p) k->Q (jh (eT t k)) Y->P [(93,.ref x)] Y:=by
   intro k;induction k with
   |nil=>
    intro x l r t p z hq;exact hP _ _ ?_;exact du z.tt.1 ?_;exact du z.tt.1 ?_;show hq
   |cons f k ih=>
    intro x l r t p z hq;cases f with
    |L a t' p' r'=>
     obtain⟨c1,c2,c3⟩:=z.cc;exact hP _ _ ?_;exact du z.tt.1 ?_;exact du z.tt.1 ?_;exact ef c1 ?_;cases r' with
     |nil=>
      exact du z.tt.1 ?_;show hq
     |nd b lb rb tb pb=>
      exact sS c2.1 z.tt.1 (λe=>?_) (λ_=>?_)
      ·exfalso;subst e;have:=z.nd;have h2:=(iP this).2.2.1;show h2 (by simp[ax,T.ag])
      ·exact du z.tt.1 ?_;show hq
    |R a t' p' l'=>
     obtain⟨c1,c2,c3⟩:=z.cc;exact hP _ _ ?_;exact du z.tt.1 ?_;exact du z.tt.1 ?_;exact ef c1 ?_;exact sS z.tt.1 z.tt.1 (λ_=>?_) (λe=>absurd rfl e);exact du z.tt.1 ?_;show ih a l' _ t' p' z.BP hq
  show key k x l .nil t p z hq
def amO(a:Nat)(t:Int)(p:Nat)(l:T)(k:List F1)(c:Int):kf (dw c (.R a t p l::k))=.ref a:=by simp[dw,kf,jh]
def ahq{n Q X Y tr x l r t p k}(z:Z Y tr (.nd x l r t p) k)(hq:Q (kf (dw t k++l.seq)) Y):(Wn (n+2)).call 65 [.ref x] Q X Y:=by
 exact en (fd:=JV) rfl ?_;exact d9 z.tt.1 ?_;cases l with
 |nd y l' r' t' p'=>
  exact d9 z.tt.1 ?_;exact aiE z.jf ?_;rw[anh]
  rewrite [BV (by simp[T.seq])] at hq
  show hq
 |nil=>
  intro P hP;have key:∀(k:List F1) (x:Nat) (l r:T) (t:Int) (p:Nat),Z Y tr (.nd x l r t p) k->Q (kf (dw t k)) Y->P [(93,.ref x)] Y:=by
   intro k;induction k with
   |nil=>
    intro x l r t p z hq;exact hP _ _ ?_;exact du z.tt.1 ?_;exact du z.tt.1 ?_;show hq
   |cons f k ih=>
    intro x l r t p z hq;cases f with
    |R a t' p' l'=>
     obtain⟨c1,c2,c3⟩:=z.cc;have bG:Q (.ref a) Y:=by rw[<-amO a t' p' l' k t];show hq
     exact hP _ _ ?_;exact du z.tt.1 ?_;exact du z.tt.1 ?_;exact d9 c1 ?_;cases l' with
     |nil=>
      exact du z.tt.1 ?_;show bG
     |nd b lb rb tb pb=>
      exact sS c2.1 z.tt.1 (λe=>?_) (λ_=>?_)
      ·exfalso;subst e;have:=z.nd;have h2:=(iP this).2.2.1;show h2 (by simp[ax,T.ag])
      ·exact du z.tt.1 ?_;show bG
    |L a t' p' r'=>
     obtain⟨c1,c2,c3⟩:=z.cc;exact hP _ _ ?_;exact du z.tt.1 ?_;exact du z.tt.1 ?_;exact d9 c1 ?_;exact sS z.tt.1 z.tt.1 (λ_=>?_) (λe=>absurd rfl e);exact du z.tt.1 ?_;show ih a _ r' t' p' z.sZ hq
  show key k x .nil r t p z (by simpa [T.seq] using hq)
def following{n Q X Y tr A B x m p}(h:Tree Y tr (A++(x,m,p)::B))(hq:Q (jh B) Y):(Wn (n+2)).call 53 [.ref x] Q X Y:=by
 obtain⟨l,r,t,c,z,_,_,e⟩:=h.at_;rw[e] at hq;show ahl z hq
def ai2{n Q X Y tr A B x m p}(h:Tree Y tr (A++(x,m,p)::B))(hq:Q (kf A) Y):(Wn (n+2)).call 65 [.ref x] Q X Y:=by
 obtain⟨l,r,t,c,z,_,e,_⟩:=h.at_;rw[e] at hq;show ahq z hq
def BW{k:List F1}(h:s'.seq=s.seq):aY s' k=aY s k:=by
 unfold aY;rw[h,FL h]
def Ge{n Q X tr}{k:List F1}(z:Z Y tr t k)(hp:∀e∈aY t k,0<e.2.1)(hc:(aY t k).length<=1000)
  (hq:∀Y',Tree Y' tr (aY t k)->Fr (tr::fu (aY t k)) Y Y'->Q .none Y'):(Wn (n+4)).call 67 [.ref tr,cV k] Q X Y:=by
 have jC:wSs (Wn (n+3)) kQ.body [(58,.ref tr),(93,cV k)] (qN Q) Q X Y->(Wn (n+4)).call 67 [.ref tr,cV k] Q X Y:=λh=>en (fd:=kQ) rfl h (h2:=by clear h hc hp hq z;cases k<;>rfl);exact jC ?_;intro P hP;clear jC;have key:∀(k:List F1) (t:T) (Y:So),Z Y tr t k->(∀e∈aY t k,0<e.2.1)->(aY t k).length<=1000->(∀Y',Tree Y' tr (aY t k)->Fr (tr::fu (aY t k)) Y Y'->Q .none Y')->P [(58,.ref tr),(93,cV k)] Y:=by
  intro k;induction k with
  |nil=>
   intro t Y z hp hc hq;show hP _ _ (hq Y (.yw z hp) .refl)
  |cons f k ih=>
   intro t Y z hp hc hq;obtain⟨a,l,r,m,p,hz,hs⟩:∃a l r m p,Z Y tr (.nd a l r m p) k/\aY (.nd a l r m p) k=aY t (f::k)/\f.a=a:=by
    clear hc hp hq;cases f with
    |L a m p r=>show⟨a,t,r,m,p,z.sZ,F4.symm,rfl⟩
    |R a m p l=>show⟨a,l,t,m,p,z.BP,F5.symm,rfl⟩
   obtain⟨hs,nL⟩:=hs;show P [(58,.ref tr),(93,.ref f.a)] Y;rw[nL];exact hP _ _ ?_;have aI:Pos (.nd a l r m p):=vt.mpr λe he=>hp e (by rw[<-hs];unfold aY;simp[he]);have Gf:(T.nd a l r m p).count<=1000:=by
    rw[<-FI];have:(aY (.nd a l r m p) k).length<=1000:=by rw[hs];show hc
    unfold aY at this;simp at this;show⟨"A.1000,B+(A+C).1000",this⟩
   exact settle hz aI Gf λY' s' z' o9 f'=>?_;have bG:=ih s' Y' z' (by rw[BW o9,hs];show hp) (by rw[BW o9,hs];show hc) λeI h1 h2=>hq eI (by rewrite [BW o9,hs] at h1;show h1) (by
    rewrite [BW o9,hs] at h2
    exact Fr.trans (λb o hb hn=>?_) h2
    rewrite [<-hs] at hn
    have Gh:b≠tr:=λe=>hn (by rw[e];show .head _);have vB:b∉fu (aY (.nd a l r m p) k):=λh=>hn (.tail _ h)
    rewrite [OG,not_or] at vB
    show f' b o hb vB.1 vB.2 Gh)
   cases s' with
   |nil=>
    exfalso;have:=congrArg List.length o9;simp[T.seq] at this
   |nd a' l' r' m' p'=>
    exact du z'.tt.1 ?_;show bG
 show key k t Y z hp hc hq
def dE(a b:List Nd):sQ (a++b)=sQ a+sQ b:=by unfold sQ;simp
def iE(e:Nd)(b:List Nd):sQ (e::b)=e.2.1+sQ b:=by unfold sQ;simp
def qC{l:List Nd}(h:∀e∈l,0<e.2.1):0<=sQ l:=by
 induction l with
 |nil=>show Int.le_refl _
 |cons e l ih=>
  rw[iE];show Int.add_nonneg (il (h e (.head _))) (ih λe he=>h e (.tail _ he))
abbrev Gi(tr:Nat)(at_:Int)(v:V)(b:Int)(ex:Env):Env:=(58,.ref tr)::(6,.int at_)::(93,v)::(86,.int b)::ex
def Gj(tr:Nat)(at_:Int)(v:V)(b:Int)(m:Env):Prop:=∃ex,m=Gi tr at_ v b ex/\Suf [94,18] ex
def vC{n Q X Y tr sq}{at_:Int}(h:Tree Y tr sq)(h0:0<=at_)(h1:at_<sQ sq)
  (hq:∀c A x m p B,Y c=none->sq=A++(x,m,p)::B->sQ A<=at_->at_<sQ A+m->Q (.ref c) (put Y c (.tup [.ref x,.int (sQ A)]))):(Wn (n+3)).call 32 [.ref tr,.int at_] Q X Y:=by
 obtain⟨t,z,hs,aI⟩:=h;exact en (fd:=Jo) rfl ?_;exact Oj z.rr ?_;intro P hP;have key:∀(t:T) (k:List F1) (b:Int) (m:Env),Z Y tr t k->Pos t->b<=at_->at_<b+t.aj->b=sQ (dw t.aj k)->aY t k=sq->Gj tr at_ t.root b m->P m Y:=by
  intro t;induction t with
  |nil=>
   intro k b m z hp h2 h3;rw[BO] at h3;show False.elim ⟨"_,a:b,b<a+0",h2,h3⟩
  |nd x l r tt p dD fN=>
   intro k b m z hp h2 h3 hb hz ti;have fin:∀c,Y c=none->b+l.aj<=at_->at_<b+l.aj+(tt-l.aj-r.aj)->Q (.ref c) (put Y c (.tup [.ref x,.int (b+l.aj)])):=λc hc g1 g2=>by
    have e1:sQ (dw tt k++l.seq)=b+l.aj:=by rw[dE,vr,hb];rfl
    have:=hq c (dw tt k++l.seq) x (tt-l.aj-r.aj) p (r.seq++eT tt k) hc (by rw[<-hz,vA]) ⟨"a:b,c+d:b,a=c+d",g1,e1⟩ ⟨"a<b+(c-d-e),a<f+d+(c-d-e),b=f+d;1,1,-1",g2,e1⟩;rw[e1] at this;show this
   have goL:∀m',Gj tr at_ l.root b m'->at_<b+l.aj->P m' Y:=λm' hm hl=>dD _ b m' z.jf hp.2.1 h2 hl hb (by rw[F4];show hz) hm;have goR:∀m',Gj tr at_ r.root (b+l.aj+(tt-l.aj-r.aj)) m'->b+l.aj+(tt-l.aj-r.aj)<=at_->P m' Y:=λm' hm hl=>fN _ _ m' z.o6 hp.2.2 hl (by rw[j9] at h3;show⟨"a<b+c+(d-c-e)+e,a<b+d",h3⟩) (by
    show _=sQ (dw tt k++l.seq++[(x,tt-l.aj-r.aj,p)]);have e1:sQ (dw tt k++l.seq)=b+l.aj:=by rw[dE,vr,hb];rfl
    rw[dE,e1,iE];show _=b+l.aj+(tt-l.aj-r.aj+0);show⟨"a+b+(c-b-d)=a+b+(c-b-d+0)"⟩) (by rw[F5];show hz) hm
   obtain⟨ex,rfl,hx⟩:=ti;obtain⟨e1,h5,u1⟩:=hx.up;exact hP _ _ ?_;exact d9 z.tt.1 ?_;exact jB z.tt.2.1 ?_;show wSs (Wn (n+2)) _ (Gi tr at_ (.ref x) b (Tactic.up ex 94 (.int l.aj))) P Q aN Y;rw[u1];exact Fx z.tt ?_;show wSs (Wn (n+2)) _ (Gi tr at_ (.ref x) b ((94,.int l.aj)::Tactic.up e1 18 (.int (tt-l.aj-r.aj)))) P Q aN Y;rw[h5.up1];conv=>whnf
   split<;>rename_i e
   ·simp at e;exact d9 z.tt.1 ?_;show goL _ ⟨_,rfl,⟨[_,_],rfl⟩⟩ e
   ·simp at e;conv=>whnf
    split<;>rename_i e2
    ·simp at e2;intro c hc;show fin c hc e e2
    ·simp at e2;exact ef z.tt.1 ?_;show goR _ ⟨_,rfl,⟨[_,_],rfl⟩⟩ e2
 exact key t [] 0 _ z (vt.mpr (hs ▸ aI)) h0 (by rw[<-vr,hs];show⟨"a<0+b,a<b",h1⟩) rfl (by simp[aY,dw,eT,hs]) ⟨[],rfl,.none _⟩
def OI{n Q X Y a p}{t:Int}(h:Y a=some (.inst 1 []))(hq:∀Y',Y' a=some (nO t p .none .none .none)->(∀b,b≠a->Y' b=Y b)->Q .none Y'):(Wn (n+1)).call 41 [.ref a,.int t,.ref p] Q X Y:=by
 exact en (fd:=Ju) rfl ?_;exact sat h ?_;exact sat ah ?_;exact sat ah ?_;exact sat ah ?_;exact sat ah ?_;exact hq _ ah λb hb=>?_;rw[ae hb,ae hb,ae hb,ae hb,ae hb]
def ams:∀(r:T) (k:List F1),dw 0 (dy r k)=dw r.aj k/\eT 0 (dy r k)=r.seq++eT r.aj k:=by
 intro zl;induction zl with
 |nil=>
  intro k;show⟨rfl,rfl⟩
 |nd a l r t p dD fN=>
  intro k;obtain⟨h1,h2⟩:=dD (.L a t p r::k);exact⟨h1,?_⟩;show eT 0 (dy l (.L a t p r::k))=_;rw[h2];simp[eT,T.seq,j9]
def attach{Y Y' tr f m pf}{f1:F1}{k:List F1}(z:Z Y tr .nil (f1::k))(hf:f∉ax (f1::k))(BX:f≠tr)
  (h1:∀t p l r q,Y f1.a=some (nO t p l r q)->Y' f1.a=some (match f1 with | .L ..=>nO t p (.ref f) r q | .R ..=>nO t p l (.ref f) q)) (h2:Y' f=some (nO m pf .none .none (.ref f1.a))) (h3:∀b,b≠f1.a->b≠f->Y' b=Y b):Z Y' tr (.nd f .nil .nil m pf) (f1::k):=by
 obtain⟨tt,cc,nd,rr⟩:=z;have bC:(ax (f1::k)).Nodup:=by simpa [T.ag] using nd
 have yz:((T.nd f .nil .nil m pf).ag++ax (f1::k)).Nodup:=by
  show(f::ax (f1::k)).Nodup;show bS.mpr ⟨hf,bC⟩
 have o5:tr∉ax (f1::k):=CR.no cc rr;have lY:Y' tr=Y tr:=h3 tr (λe=>o5 (by rw[e];show F1.BJ)) (aaa BX);cases f1 with
 |L a t p r=>
  obtain⟨c1,c2,c3⟩:=cc;have nM:(a::(r.ag++ax k)).Nodup:=bC;rw[bS,bH,not_or] at nM;exact⟨⟨h2,trivial,trivial⟩,⟨h1 _ _ _ _ _ c1,c2.congr λb hb=>h3 b (dv nM.1.1 hb) (λe=>hf (by rw[<-e];simp[ax,hb])),c3.congr λb hb=>h3 b (dv nM.1.2 hb) (λe=>hf (by rw[<-e];simp[ax,hb]))⟩,yz,lY.trans rr⟩
 |R a t p r=>
  obtain⟨c1,c2,c3⟩:=cc;have nM:(a::(r.ag++ax k)).Nodup:=bC;rw[bS,bH,not_or] at nM;exact⟨⟨h2,trivial,trivial⟩,⟨h1 _ _ _ _ _ c1,c2.congr λb hb=>h3 b (dv nM.1.1 hb) (λe=>hf (by rw[<-e];simp[ax,hb])),c3.congr λb hb=>h3 b (dv nM.1.2 hb) (λe=>hf (by rw[<-e];simp[ax,hb]))⟩,yz,lY.trans rr⟩
def Z.cY{Y Y' tr t k}{m:Int}(z:Z Y tr t k)(hc:CR Y' t.root (Tactic.cY m k))(ho:∀b,b∉ax k->Y' b=Y b):Z Y' tr t (Tactic.cY m k):=by
 have o5:tr∉ax k:=CR.no z.cc z.rr;exact⟨?_,hc,by rw[ajB];show z.nd,?_⟩
 ·rw[yn];show z.tt.congr λb hb=>ho b λh=>(dg.mp z.nd).2.2 b hb b h rfl
 ·rw[aiK,ho tr o5];show z.rr
def OJ:∀(l:T) (a:Nat) (r:T) (t:Int) (p:Nat) (k:List F1),∃y ty py ry k2,dy (.nd a l r t p) k=.L y ty py ry::k2:=by
 intro zl;induction zl with
 |nil=>
  intro a r t p k;show⟨_,_,_,_,_,rfl⟩
 |nd b l' r' t' p' dD fN=>
  intro a r t p k;show dD b r' t' p' _
def mem_mid{α β:Type}{g:α->β}{A B:List α}{a c:α}{b:β}(h:b∈(A++a::c::B).map g):b=g c\/b∈(A++a::B).map g:=by
 rw[List.map_append] at h ⊢;rcases bH.mp h with h | h
 ·show .inr (gQ _ h)
 ·rcases aO.mp h with h | h
  ·show .inr (iJ _ (by rw[h];show .head _))
  ·rcases aO.mp h with h | h
   ·show .inl h
   ·show .inr (iJ _ (.tail _ h))
@[elab_as_elim] def lZ{o:Option O}{t p l r q t' p' l' r' q'}{P:Int->Nat->V->V->V->Prop}(h:o=some (nO t p l r q))(h':o=some (nO t' p' l' r' q'))(k:P t p l r q):P t' p' l' r' q':=by
 nomatch h,h';show k
def aio{n Q X Y tr A B x m p f mf pf}(h:Tree Y tr (A++(x,m,p)::B))(hf:Y f=some (nO mf pf .none .none .none))(OL:f∉fu (A++(x,m,p)::B))(hmf:0<mf)(hlen:(A++(x,m,p)::B).length<=999)
  (hq:∀Y',Tree Y' tr (A++(x,m,p)::(f,mf,pf)::B)->Fr (tr::f::fu (A++(x,m,p)::B)) Y Y'->Q .none Y'):(Wn (n+5)).call 64 [.ref tr,.ref x,.ref f] Q X Y:=by
 have aI:=h.pos;obtain⟨l,r,t,k,z,em,eA,eB⟩:=h.at_;have ez:aY (.nd x l r t p) k=A++(x,m,p)::B:=by rw[vA,em,eA,eB]
 have zz:=z.o6.lm r _;obtain⟨e1,e2⟩:=ams r (.R x t p l::k);have gZ:∀b,b∈ax (dy r (.R x t p l::k))->b∈fu (A++(x,m,p)::B):=λb hb=>by
  rw[<-ez,<-F5,<-tH,<-F9,tH,OG];show .inr hb
 have yB:f∉ax (dy r (.R x t p l::k)):=λhb=>OL (gZ f hb);have BX:f≠tr:=λe=>by nomatch e,z.rr,hf
 have rest:∀(Y1:So),Z Y1 tr (.nd f .nil .nil mf pf) (dy r (.R x t p l::k))->(∀b,b∉ax (dy r (.R x t p l::k))->b≠f->Y1 b=Y b)->∀m',lk m' 88=some (.ref f)->lk m' 58=some (.ref tr)->(∃v,m'=[(58,.ref tr),(93,.ref v),(88,.ref f)])->wSs (Wn (n+4)) [.ex (.call 63 [(.attr (.v 88) 104),(.attr (.v 88) 103)]),.ex (.call 67 [(.v 58),(.attr (.v 88) 104)])] m' (qN Q) Q X Y1:=by
  rintro Y1 z1 o1 m' - - ⟨v,rfl⟩;exact du z1.tt.1 ?_;exact iD z1.tt.1 ?_;exact BK z1.cc (dg.mp z1.nd).2.1 λY2 c2 o2=>?_;have z2:Z Y2 tr (.nd f .nil .nil mf pf) (cY mf (dy r (.R x t p l::k))):=z1.cY c2 o2;have s2:aY (.nd f .nil .nil mf pf) (cY mf (dy r (.R x t p l::k)))=A++(x,m,p)::(f,mf,pf)::B:=by
   have h1:=BR mf (dy r (.R x t p l::k)) 0;have h2:=BU mf (dy r (.R x t p l::k)) 0;rw[Int.zero_add] at h1 h2;unfold aY;rw[j9,h1,h2,e1,e2,em,eA,eB];simp[dw,eT,T.seq,BO]
  exact du z2.tt.1 ?_;have fin:=Ge (n:=n) (X:=X) (Q:=λ_ s=>Q .none s) z2 (by
   rw[s2];intro e he;rcases bH.mp he with h | h
   ·show aI e (gQ _ h)
   ·rcases aO.mp h with rfl | h
    ·show aI _ (by simp)
    ·rcases aO.mp h with rfl | h
     ·show hmf
     ·show aI e (iJ _ (.tail _ h))) (by rw[s2];simp at hlen ⊢;show⟨"A+(B+1+1).1000,A+(B+1).999",hlen⟩) λY3 t3 f3=>by
    rw[s2] at t3 f3;exact hq Y3 t3 λb o hb hn=>?_;have Gh:b≠tr:=λe=>hn (by rw[e];show .head _);have vB:b≠f:=λe=>hn (by rw[e];show .tail _ (.head _));have OO:b∉fu (A++(x,m,p)::B):=λh=>hn (.tail _ (.tail _ h));have OQ:b∉ax (dy r (.R x t p l::k)):=λh=>OO (gZ b h);exact f3 b o (by rw[o2 b OQ,o1 b OQ vB];show hb) λhm=>?_;rcases aO.mp hm with h | h
    ·show Gh h
    ·rcases mem_mid h with h | h
     ·show vB h
     ·show OO h
  rw[yn] at fin;rw[yn];show fin
 exact en (fd:=JT) rfl ?_;exact ef z.tt.1 ?_;have OS:TR Y (.nd f .nil .nil mf pf) .none:=⟨hf,trivial,trivial⟩;have yz:(T.nd f .nil .nil mf pf).ag.Nodup:=by simp[T.ag]
 clear e1 e2 h gZ OL hlen aI hq;cases r with
 |nil=>
  have hxf:x≠f:=λe=>yB (by rw[<-e];show .head _);exact FD (s:=.nd f .nil .nil mf pf) z.tt.1 OS (by simpa [T.ag] using hxf) yz λY1 g1 g2 g3=>?_;exact rest Y1 (attach zz yB BX (λt' p' l' r' q' e=>?_) g2.1 λb hb aK=>g3 b hb (by simpa [T.ag] using aK)) (λb hb aK=>g3 b (λe=>hb (by rw[e];show .head _)) (by simpa [T.ag] using aK)) _ rfl rfl ⟨x,rfl⟩;show lZ z.tt.1 e g1
 |nd y l' r' t' p'=>
  exact ef z.tt.1 ?_;exact Gd z.o6 ?_;obtain⟨y1,ty,py,ry,k2,gj⟩:=OJ l' y r' t' p' (.R x t p l::k);rw[gj] at zz yB rest ⊢;obtain⟨c1,c2,c3⟩:=zz.cc;have hyf:y1≠f:=λe=>yB (by rw[<-e];show .head _);exact BL (s:=.nd f .nil .nil mf pf) c1 OS (show y1∉[f] by simpa using hyf) yz λY1 g1 g2 g3=>?_;exact rest Y1 (attach zz yB BX (λt' p' l' r' q' e=>?_) g2.1 λb hb aK=>g3 b hb (by simpa [T.ag] using aK)) (λb hb aK=>g3 b (λe=>hb (by rw[e];show .head _)) (by simpa [T.ag] using aK)) _ rfl rfl ⟨y1,rfl⟩;show lZ c1 e g1
def aV(tr:Nat)(Y Y':So):Prop:=∀b o,Y b=some o->b≠tr->(∀fs,o≠.inst 1 fs)->Y' b=some o
theorem aV.refl:aV tr Y Y:=λ_ _ e _ _=>e
theorem aV.trans(x:aV tr Y1 Y2)(y:aV tr Y2 Y3):aV tr Y1 Y3:=λb o e n i=>y b o (x b o e n i) n i
theorem aV.new{a:Nat}(h:Y a=none):aV tr Y (Tactic.put Y a o):=λb ob e n i=>(ae λq=>by nomatch q,h,e).trans e
theorem aV.node{a:Nat}(h:Y a=some (.inst 1 fs)):aV tr Y (Tactic.put Y a o):=λb ob e n i=>(ae λq=>by nomatch q,h,e;show i _ rfl).trans e
theorem aV.ax{tr Y Y' t k}(z:Z Y tr t k)(h:∀b,b∉Tactic.ax k->Y' b=Y b):aV tr Y Y':=λb o e n i=>by
 by_cases hb:b∈Tactic.ax k
 ·obtain⟨t,p,l,r,q,e'⟩:=CR.at_ z.cc b hb
  nomatch e',e;show absurd rfl (i _)
 ·rw[h b hb];show e
theorem Tree.gu{Y Y' tr sq}(h:Tree Y tr sq)(f:Fr (tr::fu sq) Y Y'):aV tr Y Y':=λb o e n i=>by
 exact f b o e λhm=>?_;rcases aO.mp hm with h' | h'
 ·show n h'
 ·obtain⟨A,B,m,p,rfl⟩:=pg h';obtain⟨t,l,r,q,e'⟩:=h.node
  nomatch e',e;show i _ rfl
def text_len{k Q X Y tr sq}(h:Tree Y tr sq)(hq:Q (.int (sQ sq)) Y):(Wn (k+2)).call 31 [.ref tr] Q X Y:=by
 obtain⟨t,z,rfl,_⟩:=h
 rewrite [vr] at hq
 exact en (fd:=Jn) rfl ?_;exact Oj z.rr ?_;show(Wn (k+1)).call 47 [t.root] _ X Y;show jB z.tt hq
def bW(sq:List Nd):List Nat:=sq.flatMap λe=>List.replicate e.2.1.toNat e.2.2
def Cut(sq:List Nd)(b:Int):Prop:=∃A B,sq=A++B/\sQ A=b
def BZ(a b:List Nd):bW (a++b)=bW a++bW b:=by unfold bW;simp
def vD(x:Nat)(m:Int)(p:Nat)(b:List Nd):bW ((x,m,p)::b)=List.replicate m.toNat p++bW b:=by unfold bW;simp
theorem nP:∀{sq:List Nd},(∀e∈sq,0<e.2.1)->((bW sq).length:Int)=sQ sq
 | [],_=>rfl
 |(x,m,p)::B,h=>by
  rw[vD,iE,iK,List.length_replicate];have h1:=nP λe he=>h e (.tail _ he);have h2:0<m:=h _ (.head _);show((m.toNat+(bW B).length:Nat):Int)=m+sQ B;show⟨"'(A+B)=a+b,'B=b,'A=a;1,1,1;1,-1,-1",h1,bw ⟨"0:a,0<a",h2⟩⟩
theorem ph:∀{sq:List Nd},(∀e∈sq,0<e.2.1)->(sq.length:Int)<=sQ sq
 | [],_=>Int.le_refl _
 |(x,m,p)::B,h=>by
  rw[iE];have h1:=ph λe he=>h e (.tail _ he);have h2:0<m:=h _ (.head _);show((B.length+1:Nat):Int)<=m+sQ B;show⟨"'(A+1):a+b,'A:b,0<a",h1,h2⟩
def qE(sq vE:List Nd):Prop:=bW vE=bW sq/\∀b,Cut sq b->Cut vE b
theorem qE.refl{sq}:qE sq sq:=⟨rfl,λ_ h=>h⟩
theorem qE.trans{a b c}(x:qE a b)(y:qE b c):qE a c:=⟨y.1.trans x.1,λi h=>y.2 i (x.2 i h)⟩
def ajt(a b:Nat)(p:Nat):List.replicate (a+b) p=List.replicate a p++List.replicate b p:=by
 induction a with
 |zero=>simp
 |succ a ih=>rw[show a+1+b=(a+b)+1 from by show⟨"A+1+B~A+B+1"⟩,List.replicate_succ,ih,List.replicate_succ];rfl
def aho{A B:List Nd}{x f p:Nat}{m i:Int}(h0:0<i)(h1:i<m):qE (A++(x,m,p)::B) (A++(x,i,p)::(f,m-i,p)::B):=by
 constructor
 ·rw[BZ,BZ,vD,vD,vD];have:m.toNat=i.toNat+(m-i).toNat:=⟨"A~B+C,'A=a,'B=b,'C=a-b;1,1,-1,-1;1,-1,1,1",bw ⟨"0:a,0<b,b<a",h0,h1⟩,bw ⟨"0:a,0<a",h0⟩,bw ⟨"0:a-b,b<a",h1⟩⟩;rw[this,ajt];simp only[kJ]
 ·rintro b ⟨C,D,e,rfl⟩;rcases List.append_eq_append_iff.mp e with⟨u,hu,hv⟩ | ⟨u,hu,hv⟩
  ·cases u with
   |nil=>
    exact⟨A,_,rfl,?_⟩;rw[hu];simp
   |cons y u=>
    injection hv with jW qh;subst jW;exact⟨A++(x,i,p)::(f,m-i,p)::u,D,?_,?_⟩
    ·rw[qh];simp
    ·rw[hu,dE,dE,iE,iE,iE];show sQ A+(i+(m-i+sQ u))=sQ A+(m+sQ u);show⟨"a+(b+(c-b+d))=a+(c+d)"⟩
  ·show⟨C,u++(x,i,p)::(f,m-i,p)::B,by rw[hu];simp,rfl⟩
def OU{n Q X Y tr sq}{at_:Int}(h:Tree Y tr sq)(hlen:sq.length<=900)
  (hq:∀Y' vE,Tree Y' tr vE->qE sq vE->(0<=at_->at_<=sQ sq->Cut vE at_)->aV tr Y Y'->Q .none Y'):(Wn (n+6)).call 61 [.ref tr,.int at_] Q X Y:=by
 exact en (fd:=JR) rfl ?_;conv=>whnf
 have out:∀Y',Y'=Y->(at_<=0\/sQ sq<=at_)->Q .none Y':=λY' e hc=>by
  subst e;exact hq _ sq h .refl (λg1 g2=>?_) .refl;rcases hc with hc | hc
  ·show⟨[],sq,rfl,by show(0:Int)=_;show⟨"0=a,0:a,a:0;1,1,0;1,0,1",g1,hc⟩⟩
  ·show⟨sq,[],by simp,⟨"a=b,b:a,a:b;1,0,1;1,1,0",g2,hc⟩⟩
 split<;>rename_i e
 ·simp only[decide_eq_true_eq] at e;exact text_len h ?_;conv=>whnf
  split<;>rename_i e2
  ·simp at e2;show out _ rfl (.inr e2)
  ·simp at e2;exact vC h ⟨"0:a,0<a",e⟩ e2 λc A x m p B hc iQ g1 g2=>?_;have hd:Tree (put Y c (.tup [.ref x,.int (sQ A)])) tr sq:=h.put λcl fs=>by rw[hc];simp
   have et:aV tr Y (put Y c (.tup [.ref x,.int (sQ A)])):=.new hc;subst iQ
   exists ah
   exact⟨rfl,?_⟩;conv=>whnf
   split<;>rename_i e3
   ·simp at e3;show hq _ _ hd .refl (λ_ _=>⟨A,_,rfl,e3⟩) et
   ·simp at e3;exact yy hd ?_;obtain⟨l,r,t,k,z,em,eA,eB⟩:=hd.at_;exact BK (k:=.L x t p r::k) z.jf.cc (dg.mp z.jf.nd).2.1 λY1 c1 o1=>?_;have z1:=z.jf.cY c1 o1;have jE:=et.trans (aV.ax z.jf o1);generalize fw:m-(at_-sQ A)=rest at *;have z2:Z Y1 tr (.nd x l r (t+(0-rest)) p) (cY (0-rest) k):=Z.sZ z1;have oQ:aY (.nd x l r (t+(0-rest)) p) (cY (0-rest) k)=A++(x,at_-sQ A,p)::B:=by
     rw[vA,BR,BU,eA,eB];have:t+(0-rest)-l.aj-r.aj=at_-sQ A:=by rw[em] at fw;show⟨"a+(0-b)-c-d=e-f,a-c-d-(e-f)=b;1,1;1,-1",fw⟩
     rw[this,eA]
    have hp2:∀e∈aY (.nd x l r (t+(0-rest)) p) (cY (0-rest) k),0<e.2.1:=by
     rw[oQ];intro e he;rcases bH.mp he with he | he
     ·show hd.pos e (gQ _ he)
     ·rcases aO.mp he with rfl | he
      ·show Int.sub_pos_of_lt (Int.lt_iff_le_and_ne.mpr ⟨g1,e3⟩)
      ·show hd.pos e (iJ _ (.tail _ he))
    have t2:Tree Y1 tr _:=.yw z2 hp2
    rewrite [oQ] at t2
    exact vo z2.tt.1 ?_;intro f hf;exact OI ah λY2 k1 k2=>⟨rfl,?_⟩;have tK:∀b,b≠f->Y2 b=Y1 b:=λb hb=>(k2 b hb).trans (ae hb);have nf:f∉fu (A++(x,at_-sQ A,p)::B):=λhm=>by
     obtain⟨A',B',n',p',e'⟩:=pg hm
     rewrite [e'] at t2
     obtain⟨_,_,_,_,Gk⟩:=t2.node
     nomatch hf,Gk
    have Gl:tr≠f:=λe=>by have:=z2.rr;nomatch e,hf,this
    have t3:Tree Y2 tr _:=t2.fr (λb hb=>tK b (dv nf hb)) (tK tr Gl);exact aio t3 k1 nf ⟨"0<a,b<c+d,d-(b-c)=a",g2,fw⟩ (by simp at hlen ⊢;show⟨"A+(B+1).999,A+(B+1).900",hlen⟩) λY3 t4 f4=>?_;have dC:=aho (A:=A) (B:=B) (x:=x) (f:=f) (p:=p) (m:=m) (i:=at_-sQ A) (Int.sub_pos_of_lt (Int.lt_iff_le_and_ne.mpr ⟨g1,e3⟩)) ⟨"a-b<c,a<b+c",g2⟩
    rewrite [fw] at dC
    exact hq Y3 _ t4 dC (λ_ _=>⟨A++[(x,at_-sQ A,p)],(f,rest,p)::B,by simp,?_⟩) (jE.trans λb o e' n' i'=>?_)
    ·rw[dE,iE];show sQ A+(at_-sQ A+0)=at_;show⟨"a+(b-a+0)=b"⟩
    ·have gJ:b≠f:=λq=>by nomatch q,hf,e'
     exact f4 b o (by rw[tK b gJ];show e') λhm=>?_;rcases aO.mp hm with q | hm
     ·show n' q
     ·rcases aO.mp hm with q | hm
      ·show gJ q
      ·obtain⟨A',B',n',p',kh⟩:=pg hm
       rewrite [kh] at t2
       obtain⟨_,_,_,_,Gk⟩:=t2.node
       nomatch Gk,e';show i' _ rfl
 ·simp at e;show out _ rfl (.inl e)
def adm(l:T):T->T
 | .nil=>l
 | .nd a A B t p=>.nd a (adm l A) B (t+l.aj) p
def B3(m:Int):T->List F1->List F1
 | .nil,k=>k
 | .nd a A B t p,k=>B3 m A (.L a (t+m) p B::k)
theorem OV(l:T):∀r:T,(adm l r).aj=r.aj+l.aj
 | .nil=>by show l.aj=0+l.aj;show⟨"a=0+a"⟩
 | .nd a A B t p=>rfl
def akx(l:T):∀r:T,(adm l r).seq=l.seq++r.seq:=by
 intro zl;induction zl with
 |nil=>
  show l.seq=l.seq++[];simp
 |nd a A B t p dD fN=>
  show(adm l A).seq++(a,t+l.aj-(adm l A).aj-B.aj,p)::B.seq=l.seq++(A.seq++(a,t-A.aj-B.aj,p)::B.seq);rw[dD,OV l A];have:t+l.aj-(A.aj+l.aj)-B.aj=t-A.aj-B.aj:=⟨"a+b-(c+b)-d=a-c-d"⟩;rw[this];simp
def OW(l:T):∀(r:T) (k:List F1),cW l (B3 l.aj r k)=cW (adm l r) k:=by
 intro zl;induction zl with
 |nil=>
  intro k;show rfl
 |nd a A B t p dD fN=>
  intro k;show dD _
theorem ao1{n Q X Y tr s x k tx px lx rx q0}(hx:Y x=some (nO tx px lx rx (cV k)))(hc:CR Y (.ref x) k)(hr:Y tr=some (hZ (qy (.ref x) k)))(hs:TR Y s q0)(nd:(s.ag++ax k).Nodup)(xk:x∉ax k)(xs:x∉s.ag)
  (hq:∀Y',Z Y' tr s k->(∀b,b∉s.ag->b∉ax k->b≠tr->Y' b=Y b)->Q .none Y'):(Wn (n+1)).call 71 [.ref tr,.ref x,s.root] Q X Y:=
 Fz hx hc hr hs nd xk xs λY' a b c d=>hq Y' ⟨a,b,nd,c⟩ d
def ai8{x:Nat}{lt:Int}{ll lr lq:V}{lp la:Nat}{av:V}(hl:l.aj=lt){P:Env->So->Prop}{N:Env->So->Prop}
  (hP:∀m s,wB (Wn n) (.cmp .aX (.v 112) (.v 109)) m (wE (Wn n) (.cmp .aX (.v 112) (.v 109)) m) (λt s'=>match t with
   |true=>wSs (Wn n) [.asg (.attr (.v 112) 103) (.ar .add (.attr (.v 112) 103) (.attr (.v 111) 103)),.asg (.v 112) (.attr (.v 112) 104)] m P R aN s'
   |false=>N m s') aN s->P m s)
  : ∀(r:T) (k:List F1) (Y:So),Z Y tr l (dy r k)->(∀b∈r.ag,.ref b≠av/\b≠la)->(av=.none\/∃b,av=.ref b/\b∈ax k)->Y la=some (nO lt lp ll lr lq) ->
   (∀Y',Z Y' tr (adm l r) k->(∀b,b∉r.ag->Y' b=Y b)->P [(58,.ref tr),(93,.ref x),(109,av),(111,.ref la),(112,cV k)] Y')->P [(58,.ref tr),(93,.ref x),(109,av),(111,.ref la),(112,cV (dy r k))] Y:=by
 intro r;induction r with
 |nil=>intro k Y z _ _ _ hq;show hq Y z λ_ _=>rfl
 |nd a A B t p ih _=>
  intro k Y z ha OX B4 hq;exact ih (.L a t p B::k) Y z (λb hb=>ha b (by simp[T.ag,hb])) (OX.imp id λzz=>by obtain⟨b,e,hb⟩:=zz;show⟨b,e,by simp[ax,hb]⟩) B4 λY1 z1 o1=>?_;have Gm:Y1 la=some (nO lt lp ll lr lq):=(o1 la λh=>(ha la (by simp[T.ag,h])).2 rfl).trans B4;obtain⟨c1,c2,c3⟩:=z1.cc;show P [(58,.ref tr),(93,.ref x),(109,av),(111,.ref la),(112,.ref a)] Y1;have haa:V.ref a≠av:=(ha a (by simp[T.ag])).1;have lO:a≠la:=(ha a (by simp[T.ag])).2;have fin:wSs (Wn n) [.asg (.attr (.v 112) 103) (.ar .add (.attr (.v 112) 103) (.attr (.v 111) 103)),.asg (.v 112) (.attr (.v 112) 104)] [(58,.ref tr),(93,.ref x),(109,av),(111,.ref la),(112,.ref a)] P R aN Y1:=by
   exact iD c1 ?_;exact iD Gm ?_;exact sW c1 ?_;exact du ah ?_;exact hq _ ?_ λb hb=>?_
   ·have hn:=z1.nd;have hd:=dg.mp hn;have z2:Z (put Y1 a (nO (t+lt) p (adm l A).root B.root (cV k))) tr (adm l A) (.L a (t+lt) p B::k):=by
     have bC:(a::(B.ag++ax k)).Nodup:=hd.2.1;rw[bS,bH,not_or] at bC;exact⟨z1.tt.congr λb hb=>ae λe=>?_,⟨ah,c2.congr λb hb=>ae (dv bC.1.1 hb),c3.congr λb hb=>ae (dv bC.1.2 hb)⟩,hn,?_⟩
     ·show hd.2.2 b hb a (.head _) e
     ·rw[ae λe=>?_]
      ·show z1.rr
      ·have:=z1.rr;nomatch e,c1,this
    have z3:=z2.sZ;rw[<-hl] at z3 ⊢;show z3
   ·have:b≠a/\b∉A.ag:=⟨λe=>hb (by simp[T.ag,e]),λe=>hb (by simp[T.ag,e])⟩;rw[ae this.1,o1 b this.2]
  exact hP _ _ ?_;clear ha hq ih;rcases OX with rfl | ⟨b,rfl,hb⟩
  ·show fin
  ·obtain⟨_,_,_,_,_,aK⟩:=CR.at_ z1.cc b (by simp[ax,hb]);have:=Oi (K:=λt=>match t with
    |true=>wSs (Wn n) [.asg (.attr (.v 112) 103) (.ar .add (.attr (.v 112) 103) (.attr (.v 111) 103)),.asg (.v 112) (.attr (.v 112) 104)] [(58,.ref tr),(93,.ref x),(109,.ref b),(111,.ref la),(112,.ref a)] P R aN Y1
    |false=>N [(58,.ref tr),(93,.ref x),(109,.ref b),(111,.ref la),(112,.ref a)] Y1) c1 aK (λ_=>fin) (λe=>absurd (by rw[e]) haa)
   show this
theorem ah5{Y1 tr x l r t p k'}(z1:Z Y1 tr (.nd x l r t p) k'):∀b,b∈l.ag\/b∈r.ag\/b∈ax k'->∃n p l r q,Y1 b=some (nO n p l r q):=λb hb=>by
 rcases hb with hb | hb | hb
 ·show TR.at_ z1.tt.2.1 b hb
 ·show TR.at_ z1.tt.2.2 b hb
 ·show CR.at_ z1.cc b hb
def B5{n X Y1 tr x l r t p k'}(z1:Z Y1 tr (.nd x l r t p) k'):∀(s:T) (Q1:V->So->Prop),TR Y1 s (.ref x)->(s.ag++ax k').Nodup->x∉s.ag->(∀b∈s.ag,b∈l.ag\/b∈r.ag)->(∀Y2,Z Y2 tr s k'->aV tr Y1 Y2->(∀b,b∉s.ag->b∉ax k'->b≠tr->Y2 b=Y1 b)->Q1 .none Y2)->(Wn (n+4)).call 71 [.ref tr,.ref x,s.root] Q1 X Y1:=by
 have x3:=(iP z1.nd).2.2.1;intro s Q1 hs hn hx j8 hQ1;exact ao1 z1.tt.1 z1.cc z1.rr hs hn x3 hx λY2 z2 o2=>hQ1 Y2 z2 (λb o e n i=>?_) o2;by_cases hb:b∈s.ag
 ·obtain⟨_,_,_,_,_,e'⟩:=TR.at_ hs b hb
  nomatch e',e;show absurd rfl (i _)
 ·by_cases jD:b∈ax k'
  ·obtain⟨_,_,_,_,_,e'⟩:=CR.at_ z1.cc b jD
   nomatch e',e;show absurd rfl (i _)
  ·rw[o2 b hb jD n];show e
def Gn{n Q X Y1 tr x l r t p k'}{zs:List Nd}(z1:Z Y1 tr (.nd x l r t p) k')(jF:∀s:T,s.aj=l.aj+r.aj->s.seq=l.seq++r.seq->aY s k'=zs)
  (qG:∀(s:T) (j:List F1) (Y2:So),Z Y2 tr s j->aY s j=zs->aV tr Y1 Y2->(Wn (n+4)).call 67 [.ref tr,cV j] (λ_ s=>Q .none s) X Y2):∀(s:T) (Y2:So) (w:V),Z Y2 tr s k'->s.aj=l.aj+r.aj->s.seq=l.seq++r.seq->aV tr Y1 Y2->wSs (Wn (n+4)) [.ex (.call 67 [.v 58,.v 109]),.ret .cN] [(58,.ref tr),(93,.ref x),(109,cV k'),(110,w)] (λ_ _=>False) Q X Y2:=by
 intro s Y2 w z2 e1 e2 jE;have:=qG s k' Y2 z2 (jF s e1 e2) jE;clear jF z1 z2;cases k' with
 |nil=>show this
 |cons f k'=>show this
def ajw{n Q X Y1 tr x l r t p k'}{zs:List Nd}(z1:Z Y1 tr (.nd x l r t p) k')(jF:∀s:T,s.aj=l.aj+r.aj->s.seq=l.seq++r.seq->aY s k'=zs)
  (qG:∀(s:T) (j:List F1) (Y2:So),Z Y2 tr s j->aY s j=zs->aV tr Y1 Y2->(Wn (n+4)).call 67 [.ref tr,cV j] (λ_ s=>Q .none s) X Y2):wSs (Wn (n+4)) (Df.body.drop 2) [(58,.ref tr),(93,.ref x),(109,cV k')] (qN Q) Q X Y1:=by
 cases l with
 |nil=>
  exact d9 z1.tt.1 ?_;exact ef z1.tt.1 ?_;cases r with
  |nil=>
   obtain⟨x1,x2,x3,x4,x5,x6,x7,x8⟩:=iP z1.nd;exact d9 z1.tt.1 ?_;exact B5 z1 .nil _ trivial (by simpa [T.ag] using x6) (by simp[T.ag]) (by simp[T.ag]) λY2 z2 f2 _=>?_;show Gn z1 jF qG .nil Y2 _ z2 rfl rfl f2
  |nd b l' r' t' p'=>
   obtain⟨x1,x2,x3,x4,x5,x6,x7,x8⟩:=iP z1.nd;exact ef z1.tt.1 ?_;exact B5 z1 (.nd b l' r' t' p') _ z1.tt.2.2 (dg.mpr ⟨x5,x6,λu hu v hv e=>x8 u hu (e ▸ hv)⟩) x2 (λb hb=>.inr hb) λY2 z2 f2 _=>?_;show Gn z1 jF qG (.nd b l' r' t' p') Y2 _ z2 (by rw[BO];show⟨"a=0+a"⟩) (by simp[T.seq]) f2
 |nd a la lb lt lp=>
  exact d9 z1.tt.1 ?_;exact ef z1.tt.1 ?_;cases r with
  |nil=>
   obtain⟨x1,x2,x3,x4,x5,x6,x7,x8⟩:=iP z1.nd;exact ef z1.tt.1 ?_;exact d9 z1.tt.1 ?_;exact B5 z1 (.nd a la lb lt lp) _ z1.tt.2.1 (dg.mpr ⟨x4,x6,λu hu v hv e=>(x7 u hu).2 (e ▸ hv)⟩) x1 (λb hb=>.inl hb) λY2 z2 f2 _=>?_;show Gn z1 jF qG (.nd a la lb lt lp) Y2 _ z2 (by rw[BO];show⟨"a=a+0"⟩) (by simp[T.seq]) f2
  |nd b l' r' t' p'=>
   obtain⟨x1,x2,x3,x4,x5,x6,x7,x8⟩:=iP z1.nd;exact d9 z1.tt.1 ?_;exact ef z1.tt.1 ?_;exact Gd z1.o6 ?_;rw[Gb,<-Gb l' b r' t' p' k'];obtain⟨y1,ty,py,ry,k2,gj⟩:=OJ l' b r' t' p' k';have yC:cV (dy (.nd b l' r' t' p') k')=.ref y1:=by rw[gj];rfl
   rw[yC];exact ef z1.tt.1 ?_;exact B5 z1 (.nd b l' r' t' p') _ z1.tt.2.2 (dg.mpr ⟨x5,x6,λu hu v hv e=>x8 u hu (e ▸ hv)⟩) x2 (λb hb=>.inr hb) λY2 z2 f2 o2=>?_;have zy:=Z.lm _ _ z2;rw[gj] at zy;obtain⟨c1,c2,c3⟩:=zy.cc;have OY:tr∉(T.nd a la lb lt lp).ag:=λhm=>by
    obtain⟨_,_,_,_,_,e'⟩:=ah5 z1 tr (.inl hm)
    nomatch z1.rr,e'
   have yk:TR Y2 (.nd a la lb lt lp) (.ref x):=z1.tt.2.1.congr λb' aK=>o2 b' (x7 b' aK).1 (x7 b' aK).2 (dv OY aK);have gZ:∀u,u∈ax (dy (.nd b l' r' t' p') k')->u∈(T.nd b l' r' t' p').ag\/u∈ax k':=λu hu=>by
    rw[<-vz,<-F9,vz];show .inr hu
   have y1l:y1∉(T.nd a la lb lt lp).ag:=λhm=>by
    rcases gZ y1 (by rw[gj];show .head _) with h | h
    ·show(x7 y1 hm).1 h
    ·show(x7 y1 hm).2 h
   exact BL (s:=.nd a la lb lt lp) c1 yk y1l x4 λY3 g1 g2 g3=>?_;have z3:Z Y3 tr (.nd a la lb lt lp) (dy (.nd b l' r' t' p') k'):=by
    have dis:∀u∈(T.nd a la lb lt lp).ag,u∉ax (dy (.nd b l' r' t' p') k'):=λu hu w8=>by
     rcases gZ u w8 with h | h
     ·show(x7 u hu).1 h
     ·show(x7 u hu).2 h
    have nM:=(dg.mp zy.nd).2.1;rw[gj] at dis ⊢;have Gp:(y1::(ry.ag++ax k2)).Nodup:=nM;rw[bS,bH,not_or] at Gp;exact⟨g2,⟨g1,c2.congr λu hu=>g3 u (dv Gp.1.1 hu) λh=>dis u h (by simp[ax,hu]),c3.congr λu hu=>g3 u (dv Gp.1.2 hu) λh=>dis u h (by simp[ax,hu])⟩,dg.mpr ⟨x4,nM,λu hu v hv e=>dis u hu (e ▸ hv)⟩,?_⟩;have au:tr≠y1:=λe=>by have:=zy.rr;nomatch e,c1,this
    rw[g3 tr au OY];show zy.rr
   have f3:aV tr Y2 Y3:=λu o e n' i=>by
    by_cases h1:u=y1
    ·nomatch h1,c1,e;show absurd rfl (i _)
    ·by_cases h2:u∈(T.nd a la lb lt lp).ag
     ·obtain⟨_,_,_,_,_,e'⟩:=TR.at_ yk u h2
      nomatch e',e;show absurd rfl (i _)
     ·rw[g3 u h1 h2];show e
   intro P hP;have key:=ai8 (n:=n+4) (tr:=tr) (x:=x) (lt:=lt) (la:=a) (av:=cV k') (l:=.nd a la lb lt lp) rfl hP (.nd b l' r' t' p') k' Y3 z3 (λu hu=>⟨λe=>?_,λe=>(x7 a (by simp[T.ag])).1 (e ▸ hu)⟩) (by clear gZ yC gj o2 jF x3 x6 x7 x8 z1 z2 z3;cases k' with
    |nil=>show .inl rfl
    |cons f k'=>show .inr ⟨f.a,rfl,F1.BJ⟩) g2.1 λY4 z4 o4=>?_
   ·rw[yC] at key;show key
   ·clear gZ yC gj o2 jF x3 x6 x7 z1 z2 z3;cases k' with
    |nil=>cases e
    |cons f k'=>
     injection e with e;show x8 u hu (by rw[e];show F1.BJ)
   ·exact hP _ _ ?_;have f4:aV tr Y3 Y4:=λu o e n' i=>by
     by_cases h2:u∈(T.nd b l' r' t' p').ag
     ·have h3:u∈(cW (.nd a la lb lt lp) (dy (.nd b l' r' t' p') k')).ag:=by
       have h5:=(vz k' (.nd b l' r' t' p') u).mpr (.inl h2);rw[<-F9,vz] at h5;rcases h5 with h5 | h5
       ·cases h5
       ·show(vz _ _ u).mpr (.inr h5)
      obtain⟨_,_,_,_,_,e'⟩:=TR.at_ z3.F6.tt u h3
      nomatch e',e;show absurd rfl (i _)
     ·rw[o4 u h2];show e
    have z5:Z Y4 tr (.nd a la lb lt lp) (B3 lt (.nd b l' r' t' p') k'):=by
     have:=z4.F6;rw[<-OW] at this;show this.OD
    have OZ:aY (.nd a la lb lt lp) (B3 lt (.nd b l' r' t' p') k')=_:=(tH _ _).symm.trans ((congrArg T.seq (OW (.nd a la lb lt lp) (.nd b l' r' t' p') k')).trans ((tH k' _).trans (jF _ (by rw[OV];show⟨"a+b=b+a"⟩) (akx _ _))));have fin:=qG _ _ Y4 z5 OZ ((f2.trans f3).trans f4);have fin2:wSs (Wn (n+4)) [.ex (.call 67 [.v 58,.attr (.v 111) 104])] [(58,.ref tr),(93,.ref x),(109,cV k'),(111,.ref a),(112,cV k')] (qN Q) Q X Y4:=by
     exact du z5.tt.1 ?_;show fin
    clear fin gZ yC gj OZ o2 jF x3 x6 x7 x8 z1 z2 z3 z5;cases k' with
    |nil=>show fin2
    |cons f k'=>
     obtain⟨_,_,_,_,_,aK⟩:=CR.at_ z4.cc f.a F1.BJ;have:=Oi (K:=λt=>match t with
      |true=>wSs (Wn (n+4)) [.asg (.attr (.v 112) 103) (.ar .add (.attr (.v 112) 103) (.attr (.v 111) 103)),.asg (.v 112) (.attr (.v 112) 104)] [(58,.ref tr),(93,.ref x),(109,.ref f.a),(111,.ref a),(112,.ref f.a)] P Q aN Y4
      |false=>wSs (Wn (n+4)) [.ex (.call 67 [.v 58,.attr (.v 111) 104])] [(58,.ref tr),(93,.ref x),(109,.ref f.a),(111,.ref a),(112,.ref f.a)] (qN Q) Q X Y4) aK aK (λh=>absurd rfl h) (λ_=>fin2)
     show this
def drop{n Q X Y tr A B x m p}(h:Tree Y tr (A++(x,m,p)::B))(hlen:(A++(x,m,p)::B).length<=900)
  (hq:∀Y',Tree Y' tr (A++B)->aV tr Y Y'->Q .none Y'):(Wn (n+5)).call 66 [.ref tr,.ref x] Q X Y:=by
 have aI:=h.pos;obtain⟨l,r,t,k,z,em,eA,eB⟩:=h.at_;have B6:∀e∈A++B,0<e.2.1:=λe he=>aI e (by
  rcases bH.mp he with h | h
  ·show gQ _ h
  ·show iJ _ (.tail _ h))
 have hlA:(A++B).length<=900:=by simp at hlen ⊢;show⟨"A+B.900,A+(B+1).900",hlen⟩
 exact en (fd:=Df) rfl ?_;exact du z.tt.1 ?_;exact Fx z.tt ?_;exact BK z.cc (dg.mp z.nd).2.1 λY1 c1 o1=>?_;have z1:=z.cY c1 o1;have et:aV tr Y Y1:=aV.ax z o1;have jF:∀s:T,s.aj=l.aj+r.aj->s.seq=l.seq++r.seq->aY s (cY (0-(t-l.aj-r.aj)) k)=A++B:=λs e1 e2=>by
  unfold aY;have:s.aj=t+(0-(t-l.aj-r.aj)):=⟨"a=b+(0-(b-c-d)),a=c+d;1,1;1,-1",e1⟩;rw[this,BR,BU,e2,eA,eB];simp
 generalize cY (0-(t-l.aj-r.aj)) k=k' at *;clear c1 o1 z h;exact du z1.tt.1 ?_;have qG:∀(s:T) (j:List F1) (Y2:So),Z Y2 tr s j->aY s j=A++B->aV tr Y1 Y2->(Wn (n+4)).call 67 [.ref tr,cV j] (λ_ s=>Q .none s) X Y2:=by
  intro s j Y2 z2 e jE;exact Ge z2 (by rw[e];show B6) (by rw[e];show⟨"A.1000,A.900",hlA⟩) λY3 t3 f3=>?_;have t2:Tree Y2 tr _:=.yw z2 (by rw[e];show B6);have:=t2.gu f3;rw[e] at t3;show hq Y3 t3 ((et.trans jE).trans this)
 show ajw z1 jF qG
theorem eU{a xs}{i:Int}{x:V}{K:V->Prop}(h:Y a=some (.lst xs))(hx:ix xs i=some x)(hk:K x):wm (.ref a) (.int i) K Y:=Sn h (rE hx hk)
theorem aab{a xs}{i:Int}{x:V}{K:V->Prop}(h:Y a=some (.tup xs))(hx:ix xs i=some x)(hk:K x):wm (.ref a) (.int i) K Y:=Sp h (rE hx hk)
theorem ao7{a es ep}{i:Int}{x:V}{K:V->Prop}(h:Y a=some (.aP es ep))(hx:cq es i=some x)(hk:K x):wm (.ref a) (.int i) K Y:=Sq h (rE hx hk)
def mq{xs:List V}{x:V}(h:xs[i]?=some x):ix xs (i:Int)=some x:=by
 unfold ix;rw[if_pos ⟨"0:'A"⟩];simpa using h
def yD{a b xs ys}(ha:Y a=some (.lst xs))(hb:Y b=some (.lst ys))(hl:xs.length+ys.length<big)(hq:∀c,Y c=none->Q (.ref c) (put Y c (.lst (xs++ys)))):arith .cat (.ref a) (.ref b) Q Y:=by
 show iq (Y a) λxs=>iq (Y b) λys=>xs.length+ys.length<big/\new (.lst (xs++ys)) Q Y;rw[ha,hb];show⟨hl,hq⟩
def Gq{step:V->Env->(Env->So->Prop)->So->Prop}{Q:Env->So->Prop}(I:Int->Env->So->Prop)(a b:Int)(yG:a<=b)
  (hs:∀i m s,a<=i->i<b->I i m s->∀K:Env->So->Prop,(∀m' s',I (i+1) m' s'->K m' s')->step (.int i) m K s) (he:∀m s,I b m s->Q m s):∀(m:Env) (s:So),I a m s->loop step (λ_=>True) Q (kM a b) m s:=by
 have key:∀(n:Nat) (j:Nat) (m s),j+n=(b-a).toNat->I (a+j) m s->loop step (λ_=>True) Q ((List.range' j n).map λ(i:Nat)=>V.int (a+(i:Int))) m s:=by
  intro n;induction n with
  |zero=>
   intro j m s hj hi;have:a+(j:Int)=b:=⟨"a+'A=b,A+0~B,'B=b-a;1,1,1;1,-1,-1",hj,bw ⟨"0:a-b,b:a",yG⟩⟩;rw[this] at hi;show⟨trivial,he m s hi⟩
  |succ n ih=>
   intro j m s hj hi;exact⟨trivial,hs _ m s ⟨"a:a+'A"⟩ ⟨"a+'A<b,A+(B+1)~C,'C=b-a",hj,bw ⟨"0:a-b,b:a",yG⟩⟩ hi _ λm' s' lF=>ih (j+1) m' s' ⟨"A+1+B~C,A+(B+1)~C;1,1;1,-1",hj⟩ ?_⟩;have:a+(j:Int)+1=a+((j+1:Nat):Int):=⟨"a+'A+1=a+'(A+1)"⟩;rw[<-this];show lF
 intro m s hi;have:=key (b-a).toNat 0 m s ⟨"0+A~A"⟩ (by simpa using hi);unfold kM;rw[List.range_eq_range'];show this
class inductive bX(Y:So):List V->List (Int×Int)->Prop
 |nil:bX Y [] []
 |cons {a i j vs l}:Y a=some (.tup [.int i,.int j])->bX Y vs l->bX Y (.ref a::vs) ((i,j)::l)
@[elab_as_elim] def bX.c{Y v vs l}{P:V->List (Int×Int)->Prop}(h:bX Y (v::vs) l)(k:∀a i j l,Y a=some (.tup [.int i,.int j])->bX Y vs l->P (.ref a) ((i,j)::l)):P v l:=by
 cases h with | cons a b=>show k _ _ _ _ a b
def bX.len{Y vs l}(h:bX Y vs l):vs.length=l.length:=by
 induction h with
 |nil=>rfl
 |cons _ _ ih=>simp[ih]
def bX.fr{Y Y' vs l}(h:bX Y vs l)(f:∀a xs,Y a=some (.tup xs)->Y' a=some (.tup xs)):bX Y' vs l:=by
 induction h with
 |nil=>show .nil
 |cons h _ ih=>show .cons (f _ _ h) ih
def bX.at_{Y vs l}(h:bX Y vs l):∀{i:Nat}{k v:Int},l[i]?=some (k,v)->∃a,vs[i]?=some (.ref a)/\Y a=some (.tup [.int k,.int v]):=by
 induction h with
 |nil=>intro i k v h;simp at h
 |cons h _ ih=>
  intro i k v e;cases i with
  |zero=>simp at e;obtain⟨rfl,rfl⟩:=e;show⟨_,rfl,h⟩
  |succ i=>show ih (by simpa using e)
def bX.app{Y vs l cy l'}(h:bX Y vs l)(h':bX Y cy l'):bX Y (vs++cy) (l++l'):=by
 induction h with
 |nil=>show h'
 |cons h _ ih=>show .cons h ih
def bX.take{Y vs l}(h:bX Y vs l):∀i:Nat,bX Y (vs.take i) (l.take i):=by
 induction h with
 |nil=>intro i;simp;show .nil
 |cons h _ ih=>intro i;cases i with | zero=>show .nil | succ i=>show .cons h (ih i)
def bX.drop{Y vs l}(h:bX Y vs l):∀i:Nat,bX Y (vs.drop i) (l.drop i):=by
 induction h with
 |nil=>intro i;simp;show .nil
 |cons h h' ih=>intro i;cases i with | zero=>show .cons h h' | succ i=>show ih i
inductive PL(Y:So)(p:Nat)(l:List (Int×Int)):Prop
 |mk (vs:List V) (h0:Y p=some (.lst vs)) (h1:bX Y vs l):PL Y p l
def look:List (Int×Int)->Int->Option Int
 | [],_=>none
 |(k,v)::r,x=>if k=x then some v else look r x
def nQ(l:List (Int×Int)):Prop:=(l.map (·.1)).Nodup/\∀e∈l,0<=e.1/\e.1<=2
def vF{l:List (Int×Int)}{k v:Int}(h:look l k=some v):(k,v)∈l:=by
 induction l with
 |nil=>cases h
 |cons e l ih=>
  obtain⟨a,b⟩:=e;dsimp only[look] at h;split at h
  ·rename_i q;subst q;cases h;show .head _
  ·show .tail _ (ih h)
def vG{l:List (Int×Int)}{k v:Int}(hn:(l.map (·.1)).Nodup)(h:(k,v)∈l):look l k=some v:=by
 induction l with
 |nil=>cases h
 |cons e l ih=>
  obtain⟨a,b⟩:=e;have hV:(a::l.map (·.1)).Nodup:=hn;rw[bS] at hV;dsimp only[look];rcases aO.mp h with e | h
  ·cases e;rw[if_pos rfl]
  ·rw[if_neg,ih hV.2 h];intro q;subst q;show hV.1 (bJ.mpr ⟨_,h,rfl⟩)
def yH{l:List (Int×Int)}{k:Int}:look l k=none↔k∉l.map (·.1):=by
 induction l with
 |nil=>simp[look]
 |cons e l ih=>
  obtain⟨a,b⟩:=e;dsimp only[look];by_cases q:a=k
  ·simp[q]
  ·rw[if_neg q,ih];simp[aaa q]
theorem Gr:∀{b:Nat}{l:List Int},l.Nodup->(∀k∈l,0<=k/\k<(b:Int))->l.length<=b
 |0,[],_,_=>ip 0
 |0,x::_,_,h=>absurd (Int.lt_of_le_of_lt (h x (.head _)).1 (h x (.head _)).2) (Int.lt_irrefl _)
 |b+1,l,n,h=>by
  have e:=Gr (b:=b) (n.erase (b:Int)) λk hk=>by
   have hm:=(List.Nodup.mem_erase_iff n).mp hk;show⟨(h k hm.2).1,Int.lt_iff_le_and_ne.mpr ⟨⟨"a:'A,a<'(A+1)",(h k hm.2).2⟩,hm.1⟩⟩
  have:=List.length_erase (a:=(b:Int)) (l:=l);split at this
  ·rw[this] at e;show Nat.le_add_of_sub_le e
  ·show Nat.le_succ_of_le (this ▸ e)
def nQ.len{l:List (Int×Int)}(h:nQ l):l.length<=3:=by
 have:=Gr (b:=3) h.1 λk hk=>by
  obtain⟨e,he,rfl⟩:=bJ.mp hk;show⟨(h.2 e he).1,Int.lt_add_one_of_le (h.2 e he).2⟩
 simpa using this
def B7{n Q X Y p l}{k:Int}(h:PL Y p l)(hl:l.length<=1000)(h1:∀(i:Nat) v,l[i]?=some (k,v)->Q (.int i) Y)(h0:look l k=none->Q (.int (-1)) Y):(Wn (n+1)).call 46 [.ref p,.int k] Q X Y:=by
 obtain⟨vs,hp,ht⟩:=h;have hlen:=ht.len;exact en (fd:=Jz) rfl ?_
 exists hp
 exact⟨⟨by decide,by decide,dX (by decide) (Int.natCast_nonneg _),by unfold big;show⟨"'A<'100000,B.1000,A~B",hl,hlen⟩⟩,?_⟩;exact Gq (λi m s=>s=Y/\(m=[(63,.ref p),(39,.int k)]\/∃j,m=[(63,.ref p),(39,.int k),(6,j)])/\∀(j:Nat) v,(j:Int)<i->l[j]?≠some (k,v)) 0 vs.length ⟨"0:'A"⟩ ?_ ?_ _ _ ⟨rfl,.inl rfl,λj v hj=>absurd hj (Int.not_lt.mpr (Int.natCast_nonneg _))⟩
 ·rintro i m s g0 g1 ⟨rfl,hm,k8⟩ K hK;obtain⟨iN,rfl⟩:∃iN:Nat,i=iN:=⟨i.toNat,⟨"a='A,'A=a;1,-1;1,1",bw ⟨"0:a,0:a",g0⟩⟩⟩;have hi:iN<l.length:=⟨"A>B,C~B,'A<'C",hlen,g1⟩;obtain⟨a,ha,jg⟩:=ht.at_ (i:=iN) (k:=(l[iN]).1) (v:=(l[iN]).2) (by rw[bL hi]);rcases hm with rfl | ⟨j,rfl⟩
  all_goals
   exact eU hp (mq ha) ?_;exact aab jg (x:=.int (l[iN]).1) rfl ?_;conv=>whnf
   split<;>rename_i e
   ·simp at e;show h1 iN (l[iN]).2 (by rw[bL hi,<-e])
   ·simp at e;exact hK _ _ ⟨rfl,.inr ⟨_,rfl⟩,λj v hj=>?_⟩;by_cases q:j=iN
    ·clear g0 g1 hK ha hj k8 jg;subst q;rw[bL hi];intro e';injection e' with e';show e (by rw[e'])
    ·show k8 j v (Int.lt_iff_le_and_ne.mpr ⟨⟨"'A:'B,'A<'B+1",hj⟩,λe=>q (Int.ofNat_inj.mp e)⟩)
 ·rintro m s ⟨rfl,hm,k8⟩;have:look l k=none:=by
   cases hk:look l k with
   |none=>rfl
   |some v=>
    obtain⟨i,hi,e⟩:=List.getElem_of_mem (vF hk);show absurd (by rw[bL hi,e]) (k8 i v ⟨"'A<'B,B~C,A>C;1,-1,1",hlen,hi⟩)
  rcases hm with rfl | ⟨j,rfl⟩
  ·show h0 this
  ·show h0 this
def get_{n Q X Y p l}{k:Int}(h:PL Y p l)(ho:nQ l)(h1:∀v c,look l k=some v->Y c=none->Q (.ref c) (put Y c (.tup [.int v])))(h0:look l k=none->Q .none Y):(Wn (n+2)).call 52 [.ref p,.int k] Q X Y:=by
 exact en (fd:=JF) rfl ?_;exact B7 h (by have:=ho.len;show⟨"A.1000,A.3",this⟩) (λi v hi=>?_) (λhn=>h0 hn);obtain⟨vs,hp,ht⟩:=h;obtain⟨a,ha,jg⟩:=ht.at_ hi;exact eU hp (mq ha) ?_;exact aab jg (x:=.int v) rfl ?_;intro c hc;show h1 v c (vG ho.1 (iW hi)) hc
theorem O0{n Q X Y}{i j:Int}(h:Q (.bool (decide (i=j))) Y):(Wn (n+1)).call 56 [.int i,.int j] Q X Y:=h
def O1{n Q X Y p l}{k v:Int}(h:PL Y p l)(ho:nQ l)(h1:Q (.bool (decide (look l k=some v))) Y):(Wn (n+2)).call 54 [.ref p,.int k,.int v] Q X Y:=by
 exact en (fd:=JH) rfl ?_;exact B7 h (by have:=ho.len;show⟨"A.1000,A.3",this⟩) (λi u hi=>?_) (λhn=>?_)
 ·obtain⟨vs,hp,ht⟩:=h;obtain⟨a,ha,jg⟩:=ht.at_ hi;exact eU hp (mq ha) ?_;exact aab jg (x:=.int u) rfl ?_;exact O0 ?_;rw[vG ho.1 (iW hi)] at h1
  simpa using h1
 ·rw[hn] at h1;show h1
abbrev Mp:=Int->Option Int
def upd(m:Mp)(k:Int)(v:Option Int):Mp:=λx=>if x=k then v else m x
inductive GP(Y:So)(p:Nat)(m:Mp):Prop
 |mk (l:List (Int×Int)) (h0:PL Y p l) (h1:nQ l) (h2:∀k,look l k=m k):GP Y p m
def PL.fr{S Y Y' p l}(h:PL Y p l)(f:Fr S Y Y')(hp:p∉S)(hS:∀b∈S,∀xs,Y b≠some (.tup xs)):PL Y' p l:=by
 obtain⟨vs,h1,h2⟩:=h;show⟨vs,f p _ h1 hp,h2.fr λa xs ha=>f a _ ha λhm=>hS a hm xs ha⟩
theorem PL.aB{Y Y' p l}(h:PL Y p l)(f:Fr [] Y Y'):PL Y' p l:=h.fr f (by simp) (by simp)
def GP.aB{Y Y' p m}(h:GP Y p m)(f:Fr [] Y Y'):GP Y' p m:=by
 obtain⟨l,h1,h2,h3⟩:=h;show⟨l,h1.aB f,h2,h3⟩
def Gu{a:Nat}{x y:V}{K:Env->Prop}(h:Y a=some (.tup [x,y]))(hk:K (up (up m i x) j y)):fJ [i,j] (.ref a) m K Y:=by
 show match Y a with
  |some (.tup xs)=>xs.length=2/\K (([i,j].zip xs).foldl (λm p=>up m p.1 p.2) m)
  |_=>False
 rw[h];show⟨rfl,hk⟩
def B8{a k:Nat}{x y z:V}{K:Env->Prop}(h:Y a=some (.tup [x,y,z]))(hk:K (up (up (up m i x) j y) k z)):fJ [i,j,k] (.ref a) m K Y:=by
 show match Y a with
  |some (.tup xs)=>xs.length=3/\K (([i,j,k].zip xs).foldl (λm p=>up m p.1 p.2) m)
  |_=>False
 rw[h];show⟨rfl,hk⟩
def B9{a k l:Nat}{x y z u:V}{K:Env->Prop}(h:Y a=some (.tup [x,y,z,u]))(hk:K (up (up (up (up m i x) j y) k z) l u)):fJ [i,j,k,l] (.ref a) m K Y:=by
 show match Y a with
  |some (.tup xs)=>xs.length=4/\K (([i,j,k,l].zip xs).foldl (λm p=>up m p.1 p.2) m)
  |_=>False
 rw[h];show⟨rfl,hk⟩
def Gv(A B:List (Int×Int))(x:Int):look (A++B) x=match look A x with | some v=>some v | none=>look B x:=by
 induction A with
 |nil=>rfl
 |cons e A ih=>
  obtain⟨a,b⟩:=e;show(if a=x then some b else look (A++B) x)=match (if a=x then some b else look A x) with | some v=>some v | none=>look B x
  by_cases h:a=x
  ·simp[h]
  ·simp[h,ih]
def O2(f:Int->Bool)(l:List (Int×Int))(x:Int):look (l.filter λe=>f e.1) x=if f x then look l x else none:=by
 induction l with
 |nil=>simp[look]
 |cons e l ih=>
  obtain⟨a,b⟩:=e;by_cases h:f a=true
  ·rw[List.filter_cons_of_pos (p:=λe:Int×Int=>f e.1) (by show h)];show(if a=x then some b else look (l.filter λe=>f e.1) x)=if f x then (if a=x then some b else look l x) else none;rw[ih];by_cases q:a=x
   ·subst q;simp[h]
   ·simp[q]
  ·rw[List.filter_cons_of_neg (p:=λe:Int×Int=>f e.1) (by show h),ih];show _=if f x then (if a=x then some b else look l x) else none;by_cases q:a=x
   ·subst q;simp[h]
   ·simp[q]
theorem nQ.filter{l:List (Int×Int)}(h:nQ l)(f:Int×Int->Bool):nQ (l.filter f):=
 ⟨h.1.sublist (List.filter_sublist.map _),λe he=>h.2 e (List.mem_filter.mp he).1⟩
def qH{n Q X Y p m}{k v:Int}(h:GP Y p m)(h0:0<=k)(h2:k<=2)(hq:∀c Y',Y c=none->Fr [] Y Y'->GP Y' c (upd m k (some v))->Q (.ref c) Y'):(Wn (n+2)).call 27 [.ref p,.int k,.int v] Q X Y:=by
 obtain⟨l,iO,ho,cL⟩:=h;have qJ:=ho.len;exact en (fd:=Jj) rfl ?_;exact B7 iO ⟨"A.1000,A.3",qJ⟩ (λi u hi=>?_) (λhn=>?_)
 ·obtain⟨vs,hp,ht⟩:=iO;have hlen:=ht.len;have qp:i<l.length:=by
   rcases iX i l.length with h | h
   ·show h
   ·nomatch iV h,hi
  exists hp
  exact⟨⟨"0:'A"⟩,by unfold big;show⟨"A>100000,B.3,A~B",qJ,hlen⟩,?_⟩;intro c1 n1;intro c2 n2;intro c3 n3;have q1:c2≠c1:=λe=>by nomatch e,ah,n2
  have q2:c3≠c2:=λe=>by nomatch e,ah,n3
  have q3:c3≠c1:=λe=>by nomatch e,ae (aaa q1),ah,n3
  exact yD (xs:=vs.take i) (ys:=[.ref c2]) (by rw[ae (aaa q3),ae (aaa q1)];simpa using ah) ah (by simp;unfold big;show⟨"A+1>100000,B.3,C>B,A.C",qJ,qp,Nat.min_le_left _ _⟩) ?_;intro c4 n4;have n0:∀b o,Y b=some o->b≠c1/\b≠c2/\b≠c3/\b≠c4:=λb o hb=>by
   have a1:b≠c1:=λe=>by nomatch e,n1,hb
   have a2:b≠c2:=λe=>by rewrite [e] at hb;nomatch ae q1,hb,n2
   have a3:b≠c3:=λe=>by rewrite [e] at hb;nomatch ae q2,ae q3,hb,n3
   exact⟨a1,a2,a3,λe=>?_⟩
   rewrite [<-e,ae a3,ae a2,ae a1,hb] at n4;cases n4
  have keep:∀b o,Y b=some o->put (put (put (put Y c1 (.lst (vs.take i))) c2 (.tup [.int k,.int v])) c3 (.lst [.ref c2])) c4 (.lst (vs.take i++[.ref c2])) b=some o:=λb o hb=>by
   obtain⟨a1,a2,a3,a4⟩:=n0 b o hb;rw[ae a4,ae a3,ae a2,ae a1];show hb
  conv=>whnf
  simp only[Int.toNat_natCast] at *;rw[keep p _ hp];conv=>whnf
  exact⟨⟨"0:'A+1"⟩,by unfold big;show⟨"A>100000,B.3,A~B",qJ,hlen⟩,?_⟩;intro c5 n5;have B6:(vs.take i++[V.ref c2]).length+(vs.drop (i+1)).length<big:=by simp;unfold big;show⟨"A+1+B>100000,C.3,D~C,A.D,B.D;1,2,2,1,1",qJ,hlen,Nat.min_le_right _ _,Nat.sub_le _ _⟩
  have e5:((i:Int)+1).toNat=i+1:=⟨"A~B+1,'A='B+1;1,1;1,-1",bw ⟨"0:'A+1"⟩⟩;rw[e5];have q45:c4≠c5:=λe=>by rewrite [<-e,ah] at n5;cases n5
  exact yD (ys:=vs.drop (i+1)) (by rw[ae q45];show ah) ah B6 ?_;intro c6 n6;have iF:Fr [] Y (put (put (put (put (put (put Y c1 (.lst (vs.take i))) c2 (.tup [.int k,.int v])) c3 (.lst [.ref c2])) c4 (.lst (vs.take i++[.ref c2]))) c5 (.lst (vs.drop (i+1)))) c6 (.lst ((vs.take i++[.ref c2])++vs.drop (i+1)))):=λb o hb _=>by
   have h1:=keep b o hb;have a5:b≠c5:=λe=>by rewrite [e] at h1;nomatch h1,n5
   have a6:b≠c6:=λe=>by rw[e] at h1 a5;nomatch ae a5,h1,n6
   rw[ae a6,ae a5];show h1
  have Gw:c2≠c4:=λe=>by rewrite [<-e,ae (aaa q2),ah] at n4;cases n4
  have Gx:put (put (put (put Y c1 (.lst (vs.take i))) c2 (.tup [.int k,.int v])) c3 (.lst [.ref c2])) c4 (.lst (vs.take i++[.ref c2])) c2=some (.tup [.int k,.int v]):=by
   rw[ae Gw,ae (aaa q2)];show ah
  have yJ:c2≠c5:=λe=>by rewrite [<-e,Gx] at n5;cases n5
  have Gy:c2≠c6:=λe=>by rewrite [<-e,ae yJ,Gx] at n6;cases n6
  have ji:Y c6=none:=by
   cases hs:Y c6 with
   |none=>rfl
   |some o=>
    have h1:=keep c6 o hs;have a5:c6≠c5:=λe=>by rewrite [e] at h1;nomatch h1,n5
    nomatch ae a5,h1,n6
  exact hq c6 _ ji iF ⟨l.take i++[(k,v)]++l.drop (i+1),⟨_,ah,?_⟩,?_,?_⟩
  ·have rZ:=ht.fr λa xs ha=>iF a _ ha (by simp);exact((rZ.take i).app (.cons ?_ .nil)).app (rZ.drop (i+1));rw[ae Gy,ae yJ];show Gx
  ·have qK:(l.take i++[(k,v)]++l.drop (i+1)).map (·.1)=l.map (·.1):=by
    have:l=l.take i++(k,u)::l.drop (i+1):=by
     have:=List.take_append_drop i l
     rewrite [List.drop_eq_getElem_cons qp] at this
     rewrite [bL qp] at hi
     injection hi with hi
     rewrite [hi] at this
     show this.symm
    conv=>rhs;rw[this]
    simp
   exact⟨by rw[qK];show ho.1,λe he=>?_⟩;have:e.1∈l.map (·.1):=by rw[<-qK];show bJ.mpr ⟨e,he,rfl⟩
   obtain⟨e',he',ee⟩:=bJ.mp this;rw[<-ee];show ho.2 e' he'
  ·intro x;have hl:l=l.take i++(k,u)::l.drop (i+1):=by
    have:=List.take_append_drop i l
    rewrite [List.drop_eq_getElem_cons qp] at this
    rewrite [bL qp] at hi
    injection hi with hi
    rewrite [hi] at this
    show this.symm
   have hx:=cL x
   rewrite [hl,Gv] at hx
   have hkA:look (l.take i) k=none:=by
    have hn:=ho.1
    rewrite [hl,List.map_append,dU] at hn
    rw[yH];intro hm;show(dg.mp hn).2.2 k hm k (.head _) rfl
   rw[kJ,Gv];show(match look (l.take i) x with | some v=>some v | none=>if k=x then some v else look (l.drop (i+1)) x)=if x=k then some v else m x
   rw[<-hx];by_cases q:k=x
   ·subst q;rw[hkA];simp
   ·rw[if_neg (aaa q)];show _=(match look (l.take i) x with | some v=>some v | none=>if k=x then some u else look (l.drop (i+1)) x)
    rw[if_neg q,if_neg q]
 ·obtain⟨vs,hp,ht⟩:=iO;have hlen:=ht.len;intro c1 n1;intro c2 n2;have q1:c2≠c1:=λe=>by nomatch e,ah,n2
  have keep:∀b o,Y b=some o->put (put Y c1 (.tup [.int k,.int v])) c2 (.lst [.ref c1]) b=some o:=λb o hb=>by
   have a1:b≠c1:=λe=>by nomatch e,n1,hb
   have a2:b≠c2:=λe=>by rewrite [<-e,ae a1,hb] at n2;cases n2
   rw[ae a2,ae a1];show hb
  exact yD (keep p _ hp) ah (by simp;unfold big;show⟨"A+1>100000,B.3,A~B",qJ,hlen⟩) ?_;intro c3 n3;have O3:put (put Y c1 (.tup [.int k,.int v])) c2 (.lst [.ref c1]) c1=some (.tup [.int k,.int v]):=by rw[ae (aaa q1)];show ah
  have iF:Fr [] Y (put (put (put Y c1 (.tup [.int k,.int v])) c2 (.lst [.ref c1])) c3 (.lst (vs++[.ref c1]))):=λb o hb _=>by
   have h1:=keep b o hb;have a5:b≠c3:=λe=>by rewrite [e] at h1;nomatch h1,n3
   rw[ae a5];show h1
  have iG:Y c3=none:=by
   cases hs:Y c3 with
   |none=>rfl
   |some o=>nomatch keep c3 o hs,n3
  exact hq c3 _ iG iF ⟨l++[(k,v)],⟨_,ah,?_⟩,⟨?_,?_⟩,?_⟩
  ·exact(ht.fr λa xs ha=>iF a _ ha (by simp)).app (.cons ?_ .nil);have a:c1≠c3:=λe=>by rewrite [<-e,O3] at n3;cases n3
   rw[ae a];show O3
  ·rw[List.map_append,dg];exact⟨ho.1,by simp,λa ha b hb e=>?_⟩;simp at hb
   rewrite [yH] at hn
   rewrite [e,hb] at ha
   show hn ha
  ·intro e he;rcases bH.mp he with he | he
   ·show ho.2 e he
   ·simp at he;subst he;show⟨h0,h2⟩
  ·intro x;rw[Gv,cL x];show(match m x with | some v=>some v | none=>if k=x then some v else none)=if x=k then some v else m x
   by_cases q:k=x
   ·subst q;rw[<-cL k,hn,if_pos rfl]
   ·rw[if_neg q,if_neg (aaa q)];cases m x<;>rfl
set_option tactic.hygienic true
def O4{Y p l}{f:Int×Int->Bool}{step:V->Env->(Option V->So->Prop)->So->Prop}{vs:List V}(hp:Y p=some (.lst vs))(ht:bX Y vs l)(ho:nQ l)
  (hs:∀a i j K,Y a=some (.tup [.int i,.int j])->(i,j)∈l->(f (i,j)=true->K (some (.ref a)) Y)->(f (i,j)=false->K none Y)->step (.ref a) m K Y)
  (hq:∀c Y',Y c=none->Fr [] Y Y'->PL Y' c (l.filter f)->Q (.ref c) Y'):gather step (λs'=>s' p=some (.lst vs)) m (λxs s=>xs.length<big/\new (.lst xs) Q s) vs [] Y:=by
 exact qx (λrest acc s=>s=Y/\∃l1 l2,l=l1++l2/\bX Y rest l2/\bX Y acc (l1.filter f)) ?_ ?_ ?_ _ _ _ ⟨rfl,[],l,rfl,ht,.nil⟩
 ·rintro _ _ _ ⟨rfl,_⟩;show hp
 ·rintro v r acc s ⟨rfl,l1,l2,e,hr,ha⟩ K hn o9;revert e;exact hr.c λa i j l2 h1 h2 e=>?_;exact hs a i j K h1 (by rw[e];simp) (λhf=>o9 _ _ ⟨rfl,l1++[(i,j)],l2,by rw[e];simp,h2,?_⟩) (λhf=>hn _ ⟨rfl,l1++[(i,j)],l2,by rw[e];simp,h2,?_⟩)
  ·rw[List.filter_append,List.filter_cons_of_pos hf];show ha.app (.cons h1 .nil)
  ·rw[List.filter_append,List.filter_cons_of_neg (by rw[hf];decide)]
   simpa using ha
 ·rintro acc s ⟨rfl,l1,l2,e,hr,ha⟩;cases hr
  rewrite [de] at e
  subst e;exact⟨⟨"A>100000,A~B,B.3",ha.len,(ho.filter f).len⟩,λc hc=>hq c _ hc (.new hc) ⟨_,ah,ha.fr λa xs h=>?_⟩⟩;rw[ae λq=>by nomatch q,hc,h];show h
def aj9{n Q X Y p m}{k:Int}(h:GP Y p m)(hq:∀c Y',Y c=none->Fr [] Y Y'->GP Y' c (upd m k none)->Q (.ref c) Y'):(Wn (n+1)).call 51 [.ref p,.int k] Q X Y:=by
 obtain⟨l,⟨vs,hp,ht⟩,ho,cL⟩:=h;exact en (fd:=JD) rfl ?_
 exists hp
 exact O4 (f:=λe=>!decide (e.1=k)) hp ht ho (λa i j K ha _ h1 h0=>?_) λc Y' hc f iO=>hq c Y' hc f ⟨_,iO,ho.filter _,λx=>?_⟩
 ·exact aab ha (x:=.int i) rfl ?_;by_cases e:i=k
  ·have:=h0 (by simp[e]);clear h0 h1 hq;subst e;conv=>whnf
   rw[dJ rfl];show this
  ·have:=h1 (by simp[e]);conv=>whnf
   rw[fS e];show this
 ·rw[O2 (λi=>!decide (i=k)),cL];unfold upd;by_cases e:x=k<;>simp[e]
def akq{n Q X Y p m q}{ns:List Int}(h:GP Y p m)(iA:Y q=some (.lst (ns.map V.int)))(hq:∀c Y',Y c=none->Fr [] Y Y'->GP Y' c (λx=>if x∈ns then none else m x)->Q (.ref c) Y'):(Wn (n+1)).call 28 [.ref p,.ref q] Q X Y:=by
 obtain⟨l,⟨vs,hp,ht⟩,ho,cL⟩:=h;exact en (fd:=Jk) rfl ?_
 exists hp
 exact O4 (f:=λe=>!ns.contains e.1) hp ht ho (λa i j K ha _ h1 h0=>?_) λc Y' hc f iO=>hq c Y' hc f ⟨_,iO,ho.filter _,λx=>?_⟩
 ·exact aab ha (x:=.int i) rfl ?_;have fin:∀b,b=ns.contains i->(match !b with | true=>K (some (.ref a)) Y | false=>K none Y):=λb hb=>by
   cases b with
   |true=>show h0 (by simp only[<-hb];rfl)
   |false=>show h1 (by simp only[<-hb];rfl)
  exists iA
  show⟨ns,rfl,fin _ rfl⟩
 ·rw[O2 (λi=>!ns.contains i),cL];by_cases e:x∈ns<;>simp[e]
def sub_len:∀{A B:List Int},A.Nodup->(∀x∈A,x∈B)->A.length<=B.length:=by
 intro zl;induction zl with
 |nil=>
  intro B _ _;simp
 |cons a A ih=>
  intro B hn hs
  rewrite [bS] at hn
  obtain⟨B1,B2,rfl⟩:=List.append_of_mem (hs a (.head _));have:=ih (B:=B1++B2) hn.2 λx hx=>by
   have:=hs x (.tail _ hx);have:x≠a:=λe=>hn.1 (e ▸ hx)
   simp_all
  simp at this ⊢;show⟨"A+1.B+(C+1),A.B+C",this⟩
def O5:∀{A B:List Int},A.Nodup->(∀x∈A,x∈B)->B.length<=A.length->∀x∈B,x∈A:=by
 intro zl;induction zl with
 |nil=>
  intro B _ _ hl x hx;have:B=[]:=lA.mp (by simpa using hl)
  nomatch this,hx
 |cons a A ih=>
  intro B hn hs hl x hx
  rewrite [bS] at hn
  obtain⟨B1,B2,rfl⟩:=List.append_of_mem (hs a (.head _));have:=ih (B:=B1++B2) hn.2 (λx hx=>by
   have:=hs x (.tail _ hx);have:x≠a:=λe=>hn.1 (e ▸ hx)
   simp_all) (by simp at hl ⊢;show⟨"A+B.C,A+(B+1).C+1",hl⟩) x
  by_cases e:x=a
  ·rw[e];show .head _
  ·show .tail _ (this (by simp_all))
def rS{o:Option O}{xs:List V}{p:List V->Prop}(h:o=some (.lst xs))(k:p xs):ou o p:=by subst h;show k
def O6{n Q X Y p q m1 m2}(h1:GP Y p m1)(h2:GP Y q m2)(ht:m1=m2->Q (.bool true) Y)(hf:m1≠m2->Q (.bool false) Y):(Wn (n+3)).call 59 [.ref p,.ref q] Q X Y:=by
 obtain⟨l,⟨vs,hp,hk⟩,ho,cL⟩:=h1;obtain⟨l',iO,hW,iH⟩:=h2;obtain⟨cy,oP,Bk⟩:=id iO;exact en (fd:=JN) rfl ?_;have e1:=hk.len;have e2:=Bk.len;exact rS hp (rS oP ?_);conv=>whnf
 split<;>rename_i e
 ·simp at e;exact hf λem=>e ?_;have hs:∀x,x∈l.map (·.1)↔x∈l'.map (·.1):=λx=>by
   have:=cL x
   rewrite [em,<-iH x] at this
   have a:look l x=none↔look l' x=none:=by rw[this]
   rewrite [yH,yH] at a
   show Decidable.not_iff_not.mp a
  have a1:=sub_len ho.1 λx hx=>(hs x).mp hx;have a2:=sub_len hW.1 λx hx=>(hs x).mpr hx;simp at a1 a2;show⟨"'A='B,A~C,B~D,C.D,D.C;1,1,-1,1,0;1,-1,1,0,1",e1,e2,a1,a2⟩
 ·simp at e
  exists hp
  exact lT (λrest m s=>s=Y/\(m=[(32,.ref p),(33,.ref q)]\/∃u v,m=[(32,.ref p),(33,.ref q),(39,u),(64,v)])/\∃d r,l=d++r/\bX Y rest r/\∀e∈d,look l' e.1=some e.2) ?_ ?_ ?_ _ _ _ ⟨rfl,.inl rfl,[],l,rfl,hk,by simp⟩
  ·rintro _ _ _ ⟨rfl,_⟩;show hp
  ·rintro v r m s ⟨rfl,hm,d,r',e',hr,hd⟩ K hK;revert e';exact hr.c λa i j r' c1 c2 e'=>?_;exact Gu c1 ?_;have bU:(i,j)∈l:=by rw[e'];simp
   rcases hm with rfl | ⟨u,v,rfl⟩
   all_goals
    exact O1 iO hW ?_;by_cases g:look l' i=some j
    ·rw[dJ g];show hK _ _ ⟨rfl,.inr ⟨_,_,rfl⟩,d++[(i,j)],r',by rw[e'];simp,c2,λe he=>by
      rcases bH.mp he with he | he
      ·show hd e he
      ·simp at he;subst he;show g⟩
    ·rw[fS g];exact hf λem=>g ?_;rw[iH i,<-em,<-cL i];show vG ho.1 bU
  ·rintro m s ⟨rfl,hm,d,r',e',hr,hd⟩;cases hr
   rewrite [de] at e'
   subst e';have:m1=m2:=by
    funext x
    rw[<-cL x,<-iH x];cases g:look l x with
    |some v=>show(hd _ (vF g)).symm
    |none=>
     cases g':look l' x with
     |none=>rfl
     |some v=>
      exfalso;have:=O5 (A:=l.map (·.1)) (B:=l'.map (·.1)) ho.1 (λx hx=>by
       obtain⟨e,he,rfl⟩:=bJ.mp hx;show bJ.mpr ⟨_,vF (hd e he),rfl⟩) (by simp;show⟨"A.B,C~B,D~A,'C='D;1,1,-1,-1",e1,e2,e⟩) x (bJ.mpr ⟨_,vF g',rfl⟩)
      rewrite [yH] at g
      show g this
   rcases hm with rfl | ⟨u,v,rfl⟩<;>show ht this
def aky{x y:Int}{l:List Int}:y∈insI x l↔y=x\/y∈l:=by
 induction l with
 |nil=>simp[insI]
 |cons a l ih=>
  dsimp only[insI];split
  ·rw[aO,ih,aO];constructor
   ·rintro(h | h | h)<;>simp[h]
   ·rintro(h | h | h)<;>simp[h]
  ·simp
def O7{y:Int}{l:List Int}:y∈sortI l↔y∈l:=by
 induction l with
 |nil=>simp[sortI]
 |cons a l ih=>dsimp only[sortI];rw[aky,ih];simp
def akM(x:Int)(l:List Int):(insI x l).length=l.length+1:=by
 induction l with
 |nil=>rfl
 |cons a l ih=>dsimp only[insI];split<;>simp[ih]
def ai6(l:List Int):(sortI l).length=l.length:=by
 induction l with
 |nil=>rfl
 |cons a l ih=>dsimp only[sortI];rw[akM,ih];rfl
def O8{n Q X Y p q m1 m2}(h1:GP Y p m1)(h2:GP Y q m2)(hq:∀c Y' (ks:List Int),Y c=none->Fr [] Y Y'->Y' c=some (.lst (ks.map V.int))->ks.length<=6->(∀k∈ks,(0<=k/\k<=2)/\m1 k≠m2 k)->(∀k,m1 k≠m2 k->k∈ks)->Q (.ref c) Y'):(Wn (n+3)).call 43 [.ref p,.ref q] Q X Y:=by
 obtain⟨l,yK,ho,cL⟩:=h1;obtain⟨l',qL,hW,iH⟩:=h2;obtain⟨vs,hp,hk⟩:=id yK;obtain⟨cy,oP,Bk⟩:=id qL;have mr:=ho.len;have tL:=hW.len;exact en (fd:=Jw) rfl ?_;intro c0 n0;have pj:∀b o,Y b=some o->b≠c0:=λb o hb e=>by nomatch e,n0,hb
 conv=>whnf
 rw[ae (pj p _ hp),hp];have yL:∀s,(∀b,b≠c0->s b=Y b)->PL s p l/\PL s q l':=λs hs=>⟨yK.aB λb o hb _=>by rw[hs b (pj b o hb)];show hb,qL.aB λb o hb _=>by rw[hs b (pj b o hb)];show hb⟩;exact lT (λrest m s=>(m=[(32,.ref p),(33,.ref q),(36,.ref c0)]\/∃u v,m=[(32,.ref p),(33,.ref q),(36,.ref c0),(39,u),(64,v)])/\(∀b,b≠c0->s b=Y b)/\∃(d r:List (Int×Int)) (ks:List Int),l=d++r/\bX Y rest r/\s c0=some (.lst (ks.map V.int))/\ks.length<=d.length/\(∀k∈ks,(0<=k/\k<=2)/\m1 k≠m2 k)/\∀e∈d,m1 e.1≠m2 e.1->e.1∈ks) ?_ ?_ ?_ _ _ _ ⟨.inl rfl,λb hb=>ae hb,[],l,[],rfl,hk,ah,by simp,by simp,by simp⟩
 ·rintro _ _ s ⟨_,hs,_⟩;rw[hs p (pj p _ hp)];show hp
 ·rintro v r m s ⟨hm,hs,d,r',ks,e',hr,ki,mv,mw,hd⟩ K hK;revert e';exact hr.c λa i j r' c1 c2 e'=>?_;have bU:(i,j)∈l:=by rw[e'];simp
  have Ca:m1 i=some j:=by rw[<-cL i];show vG ho.1 bU
  exact Gu (by rw[hs a (pj a _ c1)];show c1) ?_;rcases hm with rfl | ⟨u,v,rfl⟩
  all_goals
   exact O1 (yL s hs).2 hW ?_;by_cases g:look l' i=some j
   ·rw[dJ g];show hK _ _ ⟨.inr ⟨_,_,rfl⟩,hs,d++[(i,j)],r',ks,by rw[e'];simp,c2,ki,by simp;show⟨"A.B+1,A.B",mv⟩,mw,λe he au=>by
     rcases bH.mp he with he | he
     ·show hd e he au
     ·simp at he;subst he;show absurd (by rw[Ca,<-iH i,g]) au⟩
   ·rw[fS g]
    exists ki
    exists ki
    exact⟨(by simp;have:=congrArg List.length e';simp at this;unfold big;show⟨"A>100000,B.3,A.C,B~C+(D+1);1,1,1,-1",mr,mv,this⟩),?_⟩;exact hK _ _ ⟨.inr ⟨_,_,rfl⟩,λb hb=>(ae hb).trans (hs b hb),d++[(i,j)],r',ks++[i],by rw[e'];simp,c2,by rw[List.map_append];show ah,by simp;show⟨"A.B,A.B",mv⟩,λk hk=>?_,λe he au=>?_⟩
    ·rcases bH.mp hk with hk | hk
     ·show mw k hk
     ·simp at hk;clear c1 e';subst hk;show⟨ho.2 _ bU,λee=>g (by rw[iH k,<-ee,Ca])⟩
    ·rcases bH.mp he with he | he
     ·show gQ _ (hd e he au)
     ·simp at he;clear au;subst he;simp
 ·rintro m s ⟨hm,hs,d,r',ks,e',hr,ki,mv,mw,hd⟩;cases hr
  rewrite [de] at e'
  subst e';have main:∀m,(∃t,m=[(32,.ref p),(33,.ref q),(36,.ref c0)]++t/\(t=[]\/∃u v,t=[(39,u),(64,v)]))->wSs (Wn (n+2)) [.aS [39,64] (.v 33) [.iff (.cmp .lt (.call 46 [(.v 32),(.v 39)]) (.cI 0)) [.ex (.lm .append (.v 36) [(.v 39)])] []],.ret (.bi .sorted [(.v 36)])] m (qN Q) Q X s:=by
   rintro m ⟨t,rfl,ht⟩;conv=>whnf
   rw[hs q (pj q _ oP),oP];exact lT (λrest m s=>(∃t,m=[(32,.ref p),(33,.ref q),(36,.ref c0)]++t/\(t=[]\/∃u v,t=[(39,u),(64,v)]))/\(∀b,b≠c0->s b=Y b)/\∃(d2 r:List (Int×Int)) (mx:List Int),l'=d2++r/\bX Y rest r/\s c0=some (.lst ((ks++mx).map V.int))/\mx.length<=d2.length/\(∀k∈mx,(0<=k/\k<=2)/\m1 k≠m2 k)/\∀e∈d2,m1 e.1=none->e.1∈mx) ?_ ?_ ?_ _ _ _ ⟨⟨t,rfl,ht⟩,hs,[],l',[],rfl,Bk,by simpa using ki,by simp,by simp,by simp⟩
   ·rintro _ _ s ⟨_,hs,_⟩;rw[hs q (pj q _ oP)];show oP
   ·rintro v r m s ⟨hm,hs,d2,r',mx,e',hr,ki,kj,pn,hd2⟩ K hK;revert e';exact hr.c λa i j r' c1 c2 e'=>?_;have bU:(i,j)∈l':=by rw[e'];simp
    have Bl:m2 i=some j:=by rw[<-iH i];show vG hW.1 bU
    exact Gu (by rw[hs a (pj a _ c1)];show c1) ?_;obtain⟨t,rfl,ht⟩:=hm;rcases ht with rfl | ⟨u,v,rfl⟩
    all_goals
     exact B7 (yL s hs).1 ⟨"A.1000,A.3",mr⟩ (λiN u hi=>?_) (λhn=>?_)
     ·have Ca:m1 i=some u:=by rw[<-cL i];show vG ho.1 (iW hi)
      show hK _ _ ⟨⟨_,rfl,.inr ⟨_,_,rfl⟩⟩,hs,d2++[(i,j)],r',mx,by rw[e'];simp,c2,ki,by simp;show⟨"A.B+1,A.B",kj⟩,pn,λe he au=>by
       rcases bH.mp he with he | he
       ·show hd2 e he au
       ·simp at he;subst he
        nomatch Ca,au⟩
     ·exists ki
      exists ki
      exact⟨(by simp;have:=congrArg List.length e';simp at this;unfold big;show⟨"A+B>100000,C.3,D.3,A.C,B.E,D~E+(F+1);1,1,1,1,1,-1",mr,tL,mv,kj,this⟩),?_⟩;exact hK _ _ ⟨⟨_,rfl,.inr ⟨_,_,rfl⟩⟩,λb hb=>(ae hb).trans (hs b hb),d2++[(i,j)],r',mx++[i],by rw[e'];simp,c2,by rw[<-kJ,List.map_append (l₁:=ks++mx)];show ah,by simp;show⟨"A.B,A.B",kj⟩,λk hk=>?_,λe he au=>?_⟩
      ·rcases bH.mp hk with hk | hk
       ·show pn k hk
       ·simp at hk;clear c1 e';subst hk;show⟨hW.2 _ bU,λee=>by rewrite [<-cL k,hn,Bl] at ee;cases ee⟩
      ·rcases bH.mp he with he | he
       ·show gQ _ (hd2 e he au)
       ·simp at he;clear au;subst he;simp
   ·rintro m s ⟨hm,hs,d2,r',mx,e',hr,ki,kj,pn,hd2⟩;cases hr
    rewrite [de] at e'
    subst e';have fin:bi .sorted [.ref c0] Q s:=by
     exact m9 ki ?_;exact .inl ⟨ks++mx,rfl,by simp;show⟨"A+B>64,C.3,D.3,A.C,B.D",mr,tL,mv,kj⟩,λc hc=>?_⟩;have ia:Y c=none:=by
      by_cases e:c=c0
      ·rw[e];show n0
      ·rw[<-hs c e];show hc
     exact hq c _ (sortI (ks++mx)) ia (λb o hb _=>?_) ah (by rw[ai6];simp;show⟨"A+B.6,C.3,D.3,A.C,B.D",mr,tL,mv,kj⟩) (λk hk=>?_) λk hk=>?_
     ·rw[ae (λe=>by nomatch e,ia,hb),hs b (pj b o hb)];show hb
     ·rewrite [O7] at hk
      rcases bH.mp hk with hk | hk
      ·show mw k hk
      ·show pn k hk
     ·rw[O7];cases g:m1 k with
      |some v=>
       have:=cL k
       rewrite [g] at this
       show gQ _ (hd _ (vF this) hk)
      |none=>
       cases g':m2 k with
       |none=>rewrite [g,g'] at hk;show absurd rfl hk
       |some v=>
        have:=iH k
        rewrite [g'] at this
        show iJ _ (hd2 _ (vF this) g)
    obtain⟨t,rfl,ht⟩:=hm;rcases ht with rfl | ⟨u,v,rfl⟩<;>show fin
  rcases hm with rfl | ⟨u,v,rfl⟩
  ·show main _ ⟨[],rfl,.inl rfl⟩
  ·show main _ ⟨_,rfl,.inr ⟨_,_,rfl⟩⟩
set_option tactic.hygienic false
def Tree.yM{Y tr A B x n p}(h:Tree Y tr (A++(x,n,p)::B)):∃t l r q,Y x=some (nO t p l r q):=by
 obtain⟨l,r,t,k,z,_⟩:=h.at_;show⟨_,_,_,_,z.tt.1⟩
def Tree.rt{Y tr sq}(h:Tree Y tr sq):∃v,Y tr=some (hZ v):=by
 obtain⟨t,z,_⟩:=h;show⟨_,z.rr⟩
def aj5{k Q X Y tr A B x n p}{m:Int}(h:Tree Y tr (A++(x,n,p)::B))(hm:0<n+m)(hq:∀Y',Tree Y' tr (A++(x,n+m,p)::B)->aV tr Y Y'->Q .none Y'):(Wn (k+1)).call 63 [.ref x,.int m] Q X Y:=by
 have aI:=h.pos;obtain⟨l,r,t,k,z,em,eA,eB⟩:=h.at_;exact BK (k:=.L x t p r::k) z.jf.cc (dg.mp z.jf.nd).2.1 λY1 c1 o1=>?_;have z1:=z.jf.cY c1 o1;have z2:Z Y1 tr (.nd x l r (t+m) p) (cY m k):=Z.sZ z1;have oQ:aY (.nd x l r (t+m) p) (cY m k)=A++(x,n+m,p)::B:=by
  rw[vA,BR,BU,em,eA,eB];have:t+m-l.aj-r.aj=t-l.aj-r.aj+m:=⟨"a+b-c-d=a-c-d+b"⟩;rw[this]
 exact hq Y1 (oQ ▸ .yw z2 (by
  rw[oQ];intro e he;rcases bH.mp he with he | he
  ·show aI e (gQ _ he)
  ·rcases aO.mp he with he | he
   ·rw[he];show hm
   ·show aI e (iJ _ (.tail _ he)))) (aV.ax z.jf o1)
def ahi{k Q X Y tr A B x n p}(h:Tree Y tr (A++(x,n,p)::B))(hlen:(A++(x,n,p)::B).length<=900)(hq:∀Y',Tree Y' tr (A++(x,n,p)::B)->aV tr Y Y'->Q .none Y'):(Wn (k+4)).call 67 [.ref tr,.ref x] Q X Y:=by
 have aI:=h.pos;obtain⟨l,r,t,k,z,em,eA,eB⟩:=h.at_;have e:aY l (.L x t p r::k)=A++(x,n,p)::B:=by rw[F4,vA,em,eA,eB]
 exact Ge (k:=.L x t p r::k) z.jf (by rw[e];show aI) (by rw[e];show⟨"A.1000,A.900",hlen⟩) λY' t' f'=>?_;rw[e] at t' f';show hq Y' t' (h.gu f')
def bP(ra:Nat)(Y:So)(p:Nat)(m:Mp):Prop:=p≠ra/\GP Y p m
def bP.gu{ra tr Y Y' p m v}(h:bP ra Y p m)(f:aV tr Y Y')(ht:Y tr=some (hZ v)):bP ra Y' p m:=by
 obtain⟨h0,l,⟨vs,h1,h2⟩,h3,h4⟩:=h;exact⟨h0,l,⟨vs,f p _ h1 (λe=>by nomatch e,ht,h1) (λfs e=>by cases e),h2.fr λa xs ha=>f a _ ha (λe=>by nomatch e,ht,ha) λfs e=>by cases e⟩,h3,h4⟩
def fP(P:Nat->Nat->Prop)(j:Nat)(cs:List Nat):Prop:=∀i p,cs[i]?=some p->P (j+i) p
def fP.app{P j a b}:fP P j (a++b)↔fP P j a/\fP P (j+a.length) b:=by
 constructor
 ·intro h;exact⟨λi p e=>h i p ?_,λi p e=>?_⟩
  ·have:i<a.length:=by
    rcases iX i a.length with q | q
    ·show q
    ·nomatch iV q,e
   rw[mV this];show e
  ·have:=h (a.length+i) p (by rw[oj (by show⟨"A.A+B"⟩)];simpa using e)
   rwa [<-Nat.add_assoc] at this
 ·rintro⟨h1,h2⟩ i p e;rcases iX i a.length with q | q
  ·rw[mV q] at e;show h1 i p e
  ·rw[oj q] at e;have:=h2 _ p e
   rwa [Nat.add_assoc,Nat.add_sub_cancel' q] at this
def fP.rep{P j n p}:fP P j (List.replicate n p)↔∀i,j<=i->i<j+n->P i p:=by
 constructor
 ·intro h i h1 h2;have:=h (i-j) p (by rw[List.getElem?_replicate,if_pos (Nat.sub_lt_left_of_lt_add h1 h2)])
  rwa [Nat.add_sub_cancel' h1] at this
 ·intro h i q e;rw[List.getElem?_replicate] at e;split at e
  ·rename_i g;cases e;show h _ ⟨"A.A+B"⟩ (Nat.add_lt_add_left g j)
  ·cases e
inductive Tx(ra:Nat)(Y:So)(tr:Nat)(N:Int)(M:Nat->Mp):Prop
 |mk (sq:List Nd) (h0:Tree Y tr sq) (h1:sQ sq=N) (h2:fP (λi p=>bP ra Y p (M i)) 0 (bW sq)):Tx ra Y tr N M
def Tx.ex{ra Y tr N M}(h:Tx ra Y tr N M):∃sq,Tree Y tr sq/\sQ sq=N/\fP (λi p=>bP ra Y p (M i)) 0 (bW sq):=by
 obtain⟨sq,a,b,c⟩:=h;show⟨sq,a,b,c⟩
def Tx.gu{ra Y Y' tr sq}{N:Int}(h:Tree Y tr sq)(hp:fP (λi p=>bP ra Y p (M i)) 0 (bW sq))(f:aV tr Y Y'):fP (λi p=>bP ra Y' p (M i)) 0 (bW sq):=by
 obtain⟨v,hv⟩:=h.rt;show λi p e=>(hp i p e).gu f hv
def vH{P:Nat->Nat->Prop}{A B:List Nd}{x p:Nat}{m:Int}(hA:∀e∈A,0<e.2.1)(hm:0<m):fP P 0 (bW (A++(x,m,p)::B))↔fP P 0 (bW A)/\(∀i:Nat,sQ A<=i->(i:Int)<sQ A+m->P i p)/\fP P (sQ A+m).toNat (bW B):=by
 have h1:=nP hA;rw[BZ,vD,fP.app,fP.app,fP.rep,List.length_replicate];have e:0+(bW A).length+m.toNat=(sQ A+m).toNat:=⟨"0+A+B~C,'A=a,'B=b,'C=a+b;1,1,1,-1;1,-1,-1,1",h1,bw ⟨"0:a,0<a",hm⟩,bw ⟨"0:a+b,0<b,'A=a",hm,h1⟩⟩;rw[e];exact and_congr Iff.rfl (and_congr ⟨λh i h1 h2=>h i ⟨"0+A.B,0+A+C~D,a:'B,'C=b,'D=a+b;1,1,1,-1,1",e,h1,bw ⟨"0:a,0<a",hm⟩,bw ⟨"0:a+b,'A<a+b",h2⟩⟩ ⟨"A>B,'A<a+b,'B=a+b;1,1,-1",h2,bw ⟨"0:a+b,'A<a+b",h2⟩⟩,λh i k1 k2=>h i ⟨"a:'B,0+A.B,'A=a;1,1,-1",k1,h1⟩ (Int.lt_toNat.mp k2)⟩ Iff.rfl)
def anx{A:List Nd}(h:A≠[]):∃A' y k q,A=A'++[(y,k,q)]/\kf A=.ref y:=by
 rcases List.eq_nil_or_concat A with e | ⟨A',x,e⟩
 ·show absurd e h
 ·exact⟨A',x.1,x.2.1,x.2.2,by rw[e];simp,?_⟩;rw[e];simp[kf,jh]
abbrev k9(tr:Nat):O:=.inst 3 [(58,.ref tr)]
theorem lg{n}{a tr}{K:V->Prop}(h:Y a=some (k9 tr))(hk:K (.ref tr)):m6 (Wn n).cu (.ref a) 58 K Y:=aA h hk rfl rfl
def aV.tp{tr Y Y' tp}(f:aV tr Y Y')(h:Y tp=some (k9 tr))(ht:∃v,Y tr=some (hZ v)):Y' tp=some (k9 tr):=by
 obtain⟨v,ht⟩:=ht;show f tp _ h (λe=>by nomatch e,ht,h) λfs e=>by cases e
def O9{n Q X ra Y tp tr N M}{at_:Int}(h:Tx ra Y tr N M)(hN:N<=900)(fy:Y tp=some (k9 tr))(hq:∀Y',Tx ra Y' tr N M->aV tr Y Y'->Q .none Y'):(Wn (n+6)).call 62 [.ref tp,.int at_] Q X Y:=by
 have h0:=h;obtain⟨sq,ht,hs,hc⟩:=h;have hlen:=ph ht.pos;exact en (fd:=JS) rfl ?_;conv=>whnf
 split<;>rename_i e
 ·simp only[decide_eq_true_eq] at e;exact lg fy ?_;exact text_len ht ?_;conv=>whnf
  split<;>rename_i e2
  ·show hq Y h0 .refl
  ·simp at e2;exact lg fy ?_;exact vC ht ⟨"0:a,0<a",e⟩ e2 λc A x m p B ia iQ g1 g2=>?_;have hd:Tree (put Y c (.tup [.ref x,.int (sQ A)])) tr sq:=ht.put λcl fs=>by rw[ia];simp
   have et:aV tr Y (put Y c (.tup [.ref x,.int (sQ A)])):=.new ia;have fA:=Tx.gu (N:=N) ht hc et;have eu:=et.tp fy ht.rt;subst iQ
   exists ah
   exact⟨rfl,?_⟩;conv=>whnf
   split<;>rename_i e3
   ·simp at e3;show hq _ ⟨_,hd,hs,fA⟩ et
   ·simp at e3;have hA:A≠[]:=λe=>by clear e2 et g2 fA hc hd hlen hs ht eu;subst e;have:(0:Int)=at_:=e3;show⟨"_,0<a,0=a;0,1,-1",e,this⟩
    have aI:=hd.pos;exact ai2 hd ?_;clear e2 hc;obtain⟨A',y,k,q,rfl,B4⟩:=anx hA;rw[B4];have di:Tree (put Y c (.tup [.ref x,.int (sQ (A'++[(y,k,q)]))])) tr (A'++(y,k,q)::(x,m,p)::B):=by simpa using hd
    obtain⟨_,_,_,_,ny⟩:=di.yM;obtain⟨_,_,_,_,nx⟩:=hd.yM;have pA:∀e∈A',0<e.2.1:=λe he=>aI e (by simp[he]);have pk:0<k:=aI (y,k,q) (by simp);have pm:0<m:=aI (x,m,p) (by simp);have pA2:∀e∈A'++[(y,k,q)],0<e.2.1:=λe he=>aI e (gQ _ he);have sA:sQ (A'++[(y,k,q)])=sQ A'+k:=by rw[dE,iE];show _+(k+0)=_;show⟨"a+(b+0)=a+b"⟩
    have vJ:=qC pA;obtain⟨a1,a2,a3⟩:=(vH pA2 pm).mp fA;obtain⟨b1,b2,b3⟩:=(vH (B:=[]) pA pk).mp a1;exact vo ny ?_;exact vo nx ?_;have gq:=b2 (sQ A').toNat ⟨"a:'A,'A=a;1,-1",bw ⟨"0:a,0:a",vJ⟩⟩ ⟨"'A<a+b,0<b,'A=a",pk,bw ⟨"0:a,0:a",vJ⟩⟩;have gp:=a2 (sQ (A'++[(y,k,q)])).toNat ⟨"a:'A,'A=a;1,-1",bw ⟨"0:a,0<b,a=b;1,1,-1",e,e3⟩⟩ ⟨"'A<a+b,c<a+b,a=c,'A=a",g2,e3,bw ⟨"0:a,0<b,a=b;1,1,-1",e,e3⟩⟩;exact O6 gq.2 gp.2 (λem=>?_) (λ_=>?_)
    ·exact yy hd ?_;exact lg eu ?_;exact drop hd ⟨"A.900,a:900,b=a,'A:b",hN,hs,hlen⟩ λY2 t2 f2=>?_;have yN:Tree Y2 tr (A'++(y,k,q)::B):=by simpa using t2
     exact aj5 yN (m:=m) ⟨"0<a+b,c<d+b,d=c,0<a",g2,e3,pk⟩ λY3 t3 f3=>?_;have Gz:=f3.tp (f2.tp eu hd.rt) t2.rt;exact lg Gz ?_;have qJ:=ph t3.pos;have pq:sQ (A'++(y,k+m,q)::B)=N:=by
      rw[<-hs,dE,dE,dE,iE,iE,iE];show sQ A'+(k+m+sQ B)=sQ A'+(k+0)+(m+sQ B);show⟨"a+(b+c+d)=a+(b+0)+(c+d)"⟩
     exact ahi t3 ⟨"A.900,a:900,'A:b,b=a",hN,qJ,pq⟩ λY4 t4 f4=>?_;have fall:=(((et.trans f2).trans f3).trans f4);exact hq Y4 ⟨_,t4,pq,?_⟩ fall;obtain⟨v,hv⟩:=ht.rt;have pB:=((f2.trans f3).trans f4);obtain⟨v1,jW⟩:=hd.rt;exact(vH pA ⟨"0<a+b,c<d+b,d=c,0<a",g2,e3,pk⟩).mpr ⟨λi p e=>(b1 i p e).gu pB jW,λi vK g2'=>?_,?_⟩
     ·rcases Int.lt_or_le (i:Int) (sQ A'+k) with g | g
      ·show(b2 i vK g).gu pB jW
      ·
       have hpi:=a2 i ⟨"a:'A,a=b+c,b+c:'A",sA,g⟩ ⟨"'A<a+b,a=c+d,'A<c+(d+b);1,-1,1",sA,g2'⟩;obtain⟨lp,GA,GC,yO⟩:=hpi.2;obtain⟨Pa,yP,yQ,qM⟩:=gp.2;have:M i=M (sQ A').toNat:=by
        rw[em];obtain⟨vs,w1,w2⟩:=GA;obtain⟨cy,w1',Pb⟩:=yP
        nomatch w1,w1'
        have:lp=Pa:=by
         clear GC yO yQ qM w1;induction w2 generalizing Pa with
         |nil=>cases Pb;rfl
         |cons u1 u2 ih=>
          cases Pb with
          |cons GD GF=>
           nomatch u1,GD
           rw[ih _ GF]
        funext z
        rw[<-yO z,<-qM z,this]
       rw[this];show gq.gu pB jW
     ·have:(sQ A'+(k+m)).toNat=(sQ (A'++[(y,k,q)])+m).toNat:=by rw[sA];congr 1;show⟨"a+(b+c)=a+b+c"⟩
      rw[this];show λi p e=>(a3 i p e).gu pB jW
    ·show hq _ ⟨_,hd,hs,fA⟩ et
 ·show hq Y h0 .refl
abbrev Cb(tp:Nat)(b e at_:Int)(ex:Env):Env:=(27,.ref tp)::(86,.int b)::(62,.int e)::(6,.int at_)::ex
def ahW{n Q X ra Y tp tr N M}{e:Int}(h:Tx ra Y tr N M)(hN:N<=900)(hb:0<=b)(fy:Y tp=some (k9 tr))(hq:∀Y',Tx ra Y' tr N M->aV tr Y Y'->Q .none Y'):(Wn (n+7)).call 60 [.ref tp,.int b,.int e] Q X Y:=by
 exact en (fd:=JQ) rfl ?_;intro P hP;have key:∀(d:Nat) (Y1:So) (at_:Int) (ex:Env),(N-at_).toNat<=d->0<=at_->Tx ra Y1 tr N M->aV tr Y Y1->Suf [93,98,87] ex->P (Cb tp b e at_ ex) Y1:=by
  intro d;induction d using Nat.strongRecOn with
  |ind d ih=>
   intro Y1 at_ ex hd h0 h1 f1 hx;have lY:∃v,Y tr=some (hZ v):=h.ex.choose_spec.1.rt;have eu:=f1.tp fy lY;obtain⟨sq,jZ,gh,eo⟩:=id h1;have o:wSs (Wn (n+6)) [.ex (.call 62 [.v 27,.v 62])] (Cb tp b e at_ ex) (qN Q) Q X Y1:=by
    exact O9 h1 hN eu λY2 h2 f2=>?_;show hq Y2 h2 (f1.trans f2)
   exact hP _ _ ?_;conv=>whnf
   split<;>rename_i g
   ·exact lg eu ?_;exact text_len jZ ?_;conv=>whnf
    split<;>rename_i g2
    ·simp at g2;exact lg eu ?_;exact vC jZ h0 g2 λc A x m p B ia iQ q1 q2=>?_;have oU:Tree (put Y1 c (.tup [.ref x,.int (sQ A)])) tr sq:=jZ.put λcl fs=>by rw[ia];simp
     have et:aV tr Y1 (put Y1 c (.tup [.ref x,.int (sQ A)])):=.new ia;have fA:=Tx.gu (N:=N) jZ eo et;have tM:=et.tp eu jZ.rt;obtain⟨e1,h3,u1⟩:=hx.up;obtain⟨e2,h4,u2⟩:=h3.up
     exists ah
     exact⟨rfl,?_⟩;show wSs (Wn (n+6)) _ (Cb tp b e at_ (Tactic.up (Tactic.up ex 93 (.ref x)) 98 (.int (sQ A)))) P Q aN _;rw[u1,sU (by rfl),u2]
     rewrite [iQ] at oU
     exact yy oU ?_
     rewrite [<-iQ] at oU
     show wSs (Wn (n+6)) _ (Cb tp b e at_ ((93,.ref x)::(98,.int (sQ A))::Tactic.up e2 87 (.int (sQ A+m)))) P Q aN _;rw[h4.up1];exact O9 (n:=n) ⟨sq,oU,gh,fA⟩ hN tM λY2 h2 f2=>?_;show ih (N-(sQ A+m)).toNat (Nat.lt_of_lt_of_le ((Int.toNat_lt_toNat ⟨"0<a-b,b<c,c=a",g2,gh⟩).mpr ⟨"a-(b+c)<a-d,d<b+c",q2⟩) hd) Y2 (sQ A+m) _ (ip _) ⟨"0:a+b,0:c,c<a+b",h0,q2⟩ h2 ((f1.trans et).trans f2) ⟨[_,_,_],rfl⟩
    ·show o
   ·show o
 show key _ Y b [] (ip _) hb h .refl (.none _)
def akU{A0 D0 A B:List Nd}{x p:Nat}{m:Int}(h:A0++D0=A++(x,m,p)::B)(hp:∀e∈A0++D0,0<e.2.1)(h0:sQ A0=b)(h1:sQ A<=b)(h2:b<sQ A+m):A0=A:=by
 rcases List.append_eq_append_iff.mp h with⟨u,hu,hv⟩ | ⟨u,hu,hv⟩
 ·have yS:∀e∈u,0<e.2.1:=λe he=>hp e (by rw[hv];simp[he]);have:=ph yS
  rewrite [hu,dE] at h1
  have:u=[]:=lA.mp ⟨"A~0,a=b,a+c:b,'A:c;1,-1,1,1;1,0,0,0",h0,h1,this⟩;rw[hu,this];simp
 ·cases u with
  |nil=>simpa using hu
  |cons y u=>
   exfalso;injection hv with jW qh;subst jW;have yS:∀e∈u,0<e.2.1:=λe he=>hp e (by rw[hu];simp[he]);have:=qC yS
   rewrite [hu,dE,iE] at h0
   have h0':sQ A+(m+sQ u)=b:=h0;show⟨"_,a<b+c,b+(c+d)=a,0:d;0,1,1,1",h2,h0,this⟩
def ahg{n Q X Y tp tr sq}{e:Int}(h:Tree Y tr sq)(hN:sQ sq<=800)(h0:0<=b)(h1:b<e)(h2:e<=sQ sq)(fy:Y tp=some (k9 tr))
  (hq:∀c Y' A C D,Tree Y' tr (A++C++D)->bW (A++C++D)=bW sq->sQ A=b->sQ C=e-b->Y' c=some (.lst (C.map λe=>.ref e.1))->aV tr Y Y'->Q (.ref c) Y'):(Wn (n+7)).call 58 [.ref tp,.int b,.int e] Q X Y:=by
 have hlen:=ph h.pos;exact en (fd:=JM) rfl ?_;conv=>whnf
 split<;>rename_i g
 ·simp at g;show absurd h1 (Int.not_lt.mpr g)
 ·exact lg fy ?_;exact OU h ⟨"A.900,a:800,'A:a",hN,hlen⟩ λY1 jF t1 f1 GH et=>?_;have eu:=et.tp fy h.rt;have s1:sQ jF=sQ sq:=by rw[<-nP t1.pos,<-nP h.pos,f1.1]
  have l1:=ph t1.pos;exact lg eu ?_;exact OU t1 ⟨"A.900,a:800,b=a,'A:b",hN,s1,l1⟩ λY2 yU t2 f2 GJ jE=>?_;have tM:=jE.tp eu t1.rt;have s2:sQ yU=sQ sq:=by rw[<-nP t2.pos,<-s1,<-nP t1.pos,f2.1]
  have l2:=ph t2.pos;obtain⟨A0,D0,e0,bQ⟩:=f2.2 b (GH h0 ⟨"a:b,a<c,c:b",h1,h2⟩);obtain⟨E1,E2,e1,gh⟩:=GJ ⟨"0:a,0:b,b<a",h0,h1⟩ ⟨"a:b,a:c,b=c;1,1,-1",h2,s1⟩;exact lg tM ?_;exact vC t2 h0 ⟨"a<b,a<c,c:d,b=d;1,1,1,-1",h1,h2,s2⟩ λc A x m p B ia iQ q1 q2=>?_;have pD:=t2.pos;have eA:A0=A:=akU (by rw[<-e0,<-iQ]) (by rw[<-e0];show pD) bQ q1 q2;subst eA;have Cd:aV tr Y2 (put Y2 c (.tup [.ref x,.int (sQ A0)])):=.new ia;have t3:Tree (put Y2 c (.tup [.ref x,.int (sQ A0)])) tr yU:=t2.put λcl fs=>by rw[ia];simp
  obtain⟨C0,hE,hB⟩:∃C0,E1=A0++C0/\(x,m,p)::B=C0++E2:=by
   rcases List.append_eq_append_iff.mp (show A0++(x,m,p)::B=E1++E2 by rw[<-iQ,e1]) with⟨u,hu,hv⟩ | ⟨u,hu,hv⟩
   ·show⟨u,hu,hv⟩
   ·exfalso;have yS:∀e∈u,0<e.2.1:=λe he=>pD e (by rw[iQ,hu];simp[he]);have:=qC yS
    rewrite [hu,dE] at bQ
    show⟨"_,a<b,c=b,c+d=a,0:d;0,1,-1,1,1",h1,gh,bQ,this⟩
  have Ce:sQ C0=e-b:=by rewrite [hE,dE] at gh;show⟨"a=b-c,d=c,d+a=b;1,-1,1;1,1,-1",bQ,gh⟩
  exact aab ah (x:=.ref x) rfl ?_;intro cc fL;have tN:yU=A0++C0++E2:=by rw[e1,hE]
  have hhd:V.ref x=jh (C0++E2):=by rw[<-hB];rfl
  intro P hP;have t4:=t3.put (c:=cc) (o:=.lst []) λcl fs=>by rw[fL];simp
  have key:∀(R C:List Nd) (s:So) ,C0=C++R->Tree s tr yU->s cc=some (.lst (C.map λe=>.ref e.1))->aV tr Y s->P [(27,.ref tp),(86,.int b),(62,.int e),(93,jh (R++E2)),(36,.ref cc),(95,.int (sQ R))] s:=by
   intro R;induction R with
   |nil=>
    intro C s eC ts hs fs;exact hP _ _ ?_
    rewrite [de] at eC
    subst eC
    rewrite [tN] at ts
    show hq cc s A0 C0 E2 ts (by rw[<-tN,f2.1,f1.1]) bQ Ce hs fs
   |cons y R ih=>
    intro C s eC ts hs fs;obtain⟨y,k,q⟩:=y;have my:yU=(A0++C)++(y,k,q)::(R++E2):=by rw[tN,eC];simp
    have pk:0<k:=pD (y,k,q) (by rw[my];simp);have pR:=qC (l:=R) λe he=>pD e (by rw[my];simp[he]);have eJ:C.length<=800:=by have:=congrArg List.length my;simp at this;show⟨"A.800,a:800,b=a,'B:b,B~C+(A+(D+E+1));1,1,1,1,-1",hN,s2,l2,this⟩
    exact hP _ _ ?_;have pq:sQ ((y,k,q)::R)=k+sQ R:=iE _ _;rw[pq];conv=>whnf
    split<;>rename_i g
    ·exists hs
     exists hs
     exact⟨by simp;unfold big;show⟨"A>100000,A.800",eJ⟩,?_⟩;have vL:Tree (put s cc (.lst (C.map (λe=>V.ref e.1)++[.ref y]))) tr ((A0++C)++(y,k,q)::(R++E2)):=by
      rw[<-my];show ts.put λcl fs=>by rw[hs];simp
     exact yy vL ?_;exact following vL ?_;have ek:k+sQ R-k=sQ R:=⟨"a+b-a=b"⟩;show P [(27,.ref tp),(86,.int b),(62,.int e),(93,jh (R++E2)),(36,.ref cc),(95,.int (k+sQ R-k))] _;rw[ek]
     rewrite [<-my] at vL
     exact ih (C++[(y,k,q)]) _ (by rw[eC];simp) vL (by rw[List.map_append];show ah) (λb o hb n i=>?_);rw[ae λe=>by
      have:=((et.trans jE).trans Cd) b o hb n i
      nomatch e,fL,this]
     show fs b o hb n i
    ·simp at g;show False.elim ⟨"_,0<a,0:b,a+b:0",pk,pR,g⟩
  show P [(27,.ref tp),(86,.int b),(62,.int e),(93,.ref x),(36,.ref cc),(95,.int (e-b))] _;have k0:=key C0 [] _ rfl t4 ah (((et.trans jE).trans Cd).trans (.new fL))
  rewrite [<-hhd,Ce] at k0
  show k0
set_option tactic.hygienic true
def Tree.aqB{Y tr A B x n p}(h:Tree Y tr (A++(x,n,p)::B))(p':Nat):∃t l r q,Y x=some (nO t p l r q)/\Tree (Tactic.put Y x (nO t p' l r q)) tr (A++(x,n,p')::B):=by
 have aI:=h.pos;obtain⟨l,r,t,k,z,em,eA,eB⟩:=h.at_;obtain⟨x1,x2,x3,x4,x5,x6,x7,x8⟩:=iP z.nd;exact⟨_,_,_,_,z.tt.1,?_⟩;have z':Z (Tactic.put Y x (nO t p' l.root r.root (cV k))) tr (.nd x l r t p') k:=by
  exact⟨⟨ah,z.tt.2.1.congr λb hb=>ae (dv x1 hb),z.tt.2.2.congr λb hb=>ae (dv x2 hb)⟩,z.cc.congr λb hb=>ae (dv x3 hb),z.nd,?_⟩;rw[ae λe=>?_]
  ·show z.rr
  ·have:=z.rr;nomatch e,z.tt.1,this
 have e:aY (.nd x l r t p') k=A++(x,n,p')::B:=by rw[vA,em,eA,eB]
 rw[<-e];exact .yw z' ?_;rw[e];intro e he;rcases bH.mp he with he | he
 ·show aI e (gQ _ he)
 ·rcases aO.mp he with he | he
  ·rw[he];show aI (x,n,p) (by simp)
  ·show aI e (iJ _ (.tail _ he))
def setM(M:Nat->Mp)(b e:Int)(m:Mp):Nat->Mp:=λi=>if b<=(i:Int)/\(i:Int)<e then m else M i
def repl{ra Y M A B x p p' m}{n:Int}(hA:∀e∈A,0<e.2.1)(hm:0<n)(h:fP (λi p=>bP ra Y p (M i)) 0 (bW (A++(x,n,p)::B)))(hp:bP ra Y p' m):fP (λi p=>bP ra Y p (setM M (sQ A) (sQ A+n) m i)) 0 (bW (A++(x,n,p')::B)):=by
 obtain⟨a1,a2,a3⟩:=(vH hA hm).mp h;have hl:=nP hA;have nn:=qC hA;exact(vH hA hm).mpr ⟨λi q e=>?_,λi g1 g2=>?_,λi q e=>?_⟩
 ·have hi:i<(bW A).length:=by
   rcases iX i (bW A).length with g | g
   ·show g
   ·nomatch iV g,e
  have:setM M (sQ A) (sQ A+n) m (0+i)=M (0+i):=if_neg (λqq=>⟨"_,'A=a,B>A,a:'(0+B);0,1,1,1",hl,hi,qq.1⟩);show bP ra Y q (setM M (sQ A) (sQ A+n) m (0+i));rw[this];show a1 i q e
 ·have:setM M (sQ A) (sQ A+n) m i=m:=if_pos ⟨g1,g2⟩;show bP ra Y p' (setM M (sQ A) (sQ A+n) m i);rw[this];show hp
 ·have:setM M (sQ A) (sQ A+n) m ((sQ A+n).toNat+i)=M ((sQ A+n).toNat+i):=if_neg (λqq=>⟨"_,'(A+B)<a+b,'A=a+b;0,1,-1",qq.2,bw ⟨"0:a+b,0<b,'A=a",hm,hl⟩⟩);show bP ra Y q (setM M (sQ A) (sQ A+n) m _);rw[this];show a3 i q e
def akD{c d:Int}{m:Mp}(h1:b<=c)(h2:c<=d):setM (setM M b c m) c d m=setM M b d m:=by
 funext i
 unfold setM;by_cases g1:c<=(i:Int)/\(i:Int)<d
 ·rw[if_pos g1,if_pos ⟨⟨"a:'A,a:b,b:'A",h1,g1.1⟩,⟨"'A<a,'A<a",g1.2⟩⟩]
 ·rw[if_neg g1];by_cases g2:b<=(i:Int)/\(i:Int)<c
  ·rw[if_pos g2,if_pos ⟨⟨"a:'A,a:'A",g2.1⟩,⟨"'A<a,b:a,'A<b",h2,g2.2⟩⟩]
  ·rw[if_neg g2,if_neg λq=>g1 ⟨Int.not_lt.mp λx=>g2 ⟨q.1,x⟩,q.2⟩]
def ak2{m:Mp}:setM M b b m=M:=by
 funext i;show if_neg (λqq=>⟨"_,a:'A,'A<a;0,1,1",qq.1,qq.2⟩)
theorem bP.aB{ra Y Y' p m}(h:bP ra Y p m)(f:Fr [] Y Y'):bP ra Y' p m:=⟨h.1,h.2.aB f⟩
abbrev GK(tp:Nat)(b e:Int)(p:Nat)(bv:Bool)(ex:Env):Env:=(27,.ref tp)::(86,.int b)::(62,.int e)::(63,.ref p)::(97,.bool bv)::ex
abbrev Cg(tp ls:Nat)(bv:Bool)(ex:Env):Env:=(27,.ref tp)::(17,.ref ls)::(97,.bool bv)::ex
inductive LS(tp p:Nat)(b e:Int)(ra tr c:Nat)(Y:So)(m:Mp)(M:Nat->Mp)(A C D:List Nd)(rest:List V)(env:Env)(s:So):Prop
 |mk (bv:Bool) (C1 gX C2:List Nd):(∃ex,env=GK tp b e p bv ex/\Suf [93] ex)->C=C1++C2->rest=C2.map (λe=>V.ref e.1)->sQ gX=sQ C1->Tree s tr (A++gX++C2++D)->fP (λi p=>bP ra s p (setM M b (b+sQ C1) m i)) 0 (bW (A++gX++C2++D))->aV tr Y s->s c=some (.lst (C.map λe=>.ref e.1))->LS tp p b e ra tr c Y m M A C D rest env s
def afy{n Q X ra Y tp tr N M p m}{e:Int}(h:Tx ra Y tr N M)(hN:N<=800)(h0:0<=b)(h1:b<e)(h2:e<=N)(fy:Y tp=some (k9 tr))(hp:bP ra Y p m)(fB:∃xs,Y ra=some (.lst xs))
  (hq:∀v Y',Tx ra Y' tr N (setM M b e m)->aV tr Y Y'->Q (.bool v) Y'):(Wn (n+8)).call 55 [.ref tp,.int b,.int e,.ref p] Q X Y:=by
 obtain⟨sq,ht,hs,hc⟩:=h;obtain⟨rv,iB⟩:=ht.rt;exact en (fd:=JK) rfl ?_;exact ahg ht ⟨"a:800,b:800,a=b",hN,hs⟩ h0 h1 ⟨"a:b,a:c,b=c;1,1,-1",h2,hs⟩ fy λc Y1 A C D t1 Pg hsA Ce eo et=>?_;obtain⟨rv1,hrv1⟩:=t1.rt
 exists eo
 have gh:sQ (A++C++D)=N:=by rw[<-hs,<-nP t1.pos,<-nP ht.pos,Pg]
 have qO:=Tx.gu (N:=N) ht hc et
 rewrite [<-Pg] at qO
 have yV:∀e∈A,0<e.2.1:=λe he=>t1.pos e (by simp[he]);have GL:∀e∈C,0<e.2.1:=λe he=>t1.pos e (by simp[he]);have Ph:C.length<=800:=by have:=ph t1.pos;rewrite [gh] at this;simp at this;show⟨"A.800,a:800,'B+('A+'C):a",hN,this⟩
 have eu:=et.tp fy ht.rt;have fin:∀(bv:Bool) (env:Env) (s:So),(∃ex,env=GK tp b e p bv ex/\Suf [93] ex)->Tx ra s tr N (setM M b e m)->aV tr Y s->wSs (Wn (n+7)) [.ex (.call 60 [.v 27,.v 86,.v 62]),.ret (.v 97)] env (qN Q) Q X s:=by
  rintro bv env s ao hx fs;have GO:=fs.tp fy ht.rt;obtain⟨ex,rfl,Ci⟩:=ao;exact ahW hx ⟨"a:900,a:800",hN⟩ h0 GO λs' fj fs'=>?_;show hq bv s' fj (fs.trans fs')
 exact lT (LS tp p b e ra tr c Y m M A C D) ?_ ?_ ?_ _ _ _ ⟨false,[],[],C,⟨[],rfl,.none _⟩,rfl,rfl,rfl,by simpa using t1,by
   have:setM M b (b+sQ []) m=M:=by
    show setM M b (b+0) m=M;rw[Int.add_zero,ak2]
   rw[this];simpa using qO,et,eo⟩
 ·rintro _ _ s ⟨_,_,_,_,_,_,_,_,_,_,_,h⟩;show h
 ·rintro v rest env s ⟨bv,C1,gX,C2,ao,eC,jG,gw,ts,fA,fs,dr⟩ K hK;cases C2 with
  |nil=>cases jG
  |cons y C2=>
   obtain⟨y,k,q⟩:=y;injection jG with ev er;subst ev;have pos:=ts.pos;have GQ:Tree s tr ((A++gX)++(y,k,q)::(C2++D)):=by simpa using ts
   have mz:fP (λi p=>bP ra s p (setM M b (b+sQ C1) m i)) 0 (bW ((A++gX)++(y,k,q)::(C2++D))):=by simpa using fA
   have GR:∀e∈A++gX,0<e.2.1:=λe he=>pos e (by simp at he;rcases he with he | he<;>simp[he]);have pk:0<k:=pos (y,k,q) (by simp);have sA':sQ (A++gX)=b+sQ C1:=by rw[dE,hsA,gw]
   have nn1:=qC (l:=C1) λe he=>GL e (by rw[eC];simp[he]);have vJ:=qC GR;have y4:sQ (C1++[(y,k,q)])=sQ C1+k:=by rw[dE,iE];show _+(k+0)=_;show⟨"a+(b+0)=a+b"⟩
   have Cj:bP ra s p m:=hp.gu fs iB;obtain⟨_,_,_,_,ny⟩:=GQ.yM;obtain⟨a1,a2,a3⟩:=(vH GR pk).mp mz;have gq:bP ra s q (setM M b (b+sQ C1) m (sQ (A++gX)).toNat):=a2 (sQ (A++gX)).toNat ⟨"a:'A,'A=a;1,-1",bw ⟨"0:a,0:a",vJ⟩⟩ ⟨"'A<a+b,0<b,'A=a",pk,bw ⟨"0:a,0:a",vJ⟩⟩;have mB:∀(s2:So) (p2:Nat),fP (λi p=>bP ra s2 p (setM M b (b+sQ C1) m i)) 0 (bW ((A++gX)++(y,k,q)::(C2++D)))->bP ra s2 p2 m->fP (λi p=>bP ra s2 p (setM M b (b+sQ (C1++[(y,k,q)])) m i)) 0 (bW (A++(gX++[(y,k,p2)])++C2++D)):=λs2 p2 g1 g2=>by
    have:=repl GR pk g1 g2
    rewrite [sA',akD (by show⟨"a:a+b,0:b",nn1⟩) (by show⟨"a+b:a+b+c,0<c",pk⟩)] at this
    rw[y4,<-Int.add_assoc]
    simpa using this
   obtain⟨ex,rfl,Ci⟩:=ao;show wSs (Wn (n+7)) _ (GK tp b e p bv (Tactic.up ex 93 (.ref y))) K Q aN s;rw[Ci.up1];exact vo ny ?_;exact O6 Cj.2 gq.2 (λem=>?_) (λ_=>?_)
   ·exact hK _ _ ⟨bv,C1++[(y,k,q)],gX++[(y,k,q)],C2,⟨_,rfl,⟨[_],rfl⟩⟩,by rw[eC];simp,er,?_,by simpa using ts,mB s q mz (em ▸ gq),fs,dr⟩;rw[dE,dE,gw]
   ·obtain⟨lp,⟨vs,jw,Pj⟩,ho,cL⟩:=Cj.2;have hv3:=ho.len;have uV:=Pj.len;exact FH jw (by unfold big;show⟨"A>100000,B.3,A~B",hv3,uV⟩) λc2 dB=>?_;have vL:Tree (put s c2 (.lst vs)) tr ((A++gX)++(y,k,q)::(C2++D)):=GQ.put λcl fs=>by rw[dB];simp
    obtain⟨t,l,r,qq,Pk,ts3⟩:=vL.aqB c2;have jE:aV tr s (put s c2 (.lst vs)):=.new dB;have Cd:aV tr (put s c2 (.lst vs)) (put (put s c2 (.lst vs)) y (nO t c2 l r qq)):=.node Pk;have Ck:=jE.trans Cd;obtain⟨rvs,y5⟩:=ts.rt;have GU:c2≠ra:=λe=>by
     obtain⟨xs,fM⟩:=fB;have:=fs ra _ fM (λe=>by nomatch e,iB,fM) (λ_ e=>by cases e)
     rewrite [<-e,dB] at this;cases this
    have GV:c2≠y:=λe=>by rewrite [e] at dB;nomatch ny,dB
    have jV:bP ra (put (put s c2 (.lst vs)) y (nO t c2 l r qq)) c2 m:=by
     exact⟨GU,lp,⟨vs,by rw[ae GV];show ah,Pj.fr λa xs ha=>?_⟩,ho,cL⟩;show Ck a _ ha (λe=>by nomatch e,y5,ha) λ_ e=>by cases e
    exact aqp Pk ?_;exact hK _ _ ⟨true,C1++[(y,k,q)],gX++[(y,k,c2)],C2,⟨_,rfl,⟨[_],rfl⟩⟩,by rw[eC];simp,er,?_,by simpa using ts3,mB _ c2 (Tx.gu (N:=N) GQ mz Ck) jV,fs.trans Ck,Ck c _ dr (λe=>by nomatch e,y5,dr) λ_ e=>by cases e⟩
    rw[dE,dE,gw];rfl
 ·rintro env s ⟨bv,C1,gX,C2,ao,eC,jG,gw,ts,fA,fs,dr⟩;cases C2 with
  |cons _ _=>cases jG
  |nil=>
   rewrite [de] at eC
   subst eC;have e1:b+sQ C=e:=⟨"a+b=c,b=c-a;1,1;1,-1",Ce⟩
   rewrite [e1] at fA
   show fin bv env s ao ⟨_,ts,by rw[<-gh,dE,dE,dE,dE,dE,gw];show _+0+_=_;show⟨"a+b+0+c=a+b+c"⟩,fA⟩ fs
class inductive RL(ra:Nat)(Y:So):List V->List (Int×Int×Mp)->Prop
 |nil:RL ra Y [] []
 |cons {a b e p m vs R}:Y a=some (.tup [.int b,.int e,.ref p])->bP ra Y p m->RL ra Y vs R->RL ra Y (.ref a::vs) ((b,e,m)::R)
@[elab_as_elim] def RL.c{ra Y v vs l}{P:V->List (Int×Int×Mp)->Prop}(h:RL ra Y (v::vs) l)(k:∀a b e p m R,Y a=some (.tup [.int b,.int e,.ref p])->bP ra Y p m->RL ra Y vs R->P (.ref a) ((b,e,m)::R)):P v l:=by
 cases h with | cons a b c=>show k _ _ _ _ _ _ a b c
def RL.gu{ra tr Y Y' vs R v}(h:RL ra Y vs R)(f:aV tr Y Y')(ht:Y tr=some (hZ v)):RL ra Y' vs R:=by
 induction h with
 |nil=>show .nil
 |cons h1 h2 _ ih=>show .cons (f _ _ h1 (λe=>by nomatch e,ht,h1) λ_ e=>by cases e) (h2.gu f ht) ih
def vM(M:Nat->Mp)(R:List (Int×Int×Mp)):Nat->Mp:=R.foldl (λM r=>setM M r.1 r.2.1 r.2.2) M
inductive LP(tp ls:Nat)(ra tr:Nat)(Y:So)(N:Int)(M:Nat->Mp)(R:List (Int×Int×Mp))(rest:List V)(env:Env)(s:So):Prop
 |mk (bv:Bool) (R1 R2:List (Int×Int×Mp)):(∃ex,env=Cg tp ls bv ex/\Suf [86,62,63] ex)->R=R1++R2->RL ra Y rest R2->Tx ra s tr N (vM M R1)->aV tr Y s->LP tp ls ra tr Y N M R rest env s
def Pl{n Q X ra Y tp tr N M ls vs R}(h:Tx ra Y tr N M)(hN:N<=800)(fy:Y tp=some (k9 tr))(fB:∃xs,Y ra=some (.lst xs))(hl:Y ls=some (.lst vs))(hR:RL ra Y vs R)(hb:∀r∈R,0<=r.1/\r.1<r.2.1/\r.2.1<=N)
  (hq:∀v Y',Tx ra Y' tr N (vM M R)->aV tr Y Y'->Q (.bool v) Y'):(Wn (n+9)).call 45 [.ref tp,.ref ls] Q X Y:=by
 obtain⟨rv,iB⟩:=h.ex.choose_spec.1.rt;exact en (fd:=Jy) rfl ?_
 exists hl
 exact lT (LP tp ls ra tr Y N M R) ?_ ?_ ?_ _ _ _ ⟨false,[],R,⟨[],rfl,.none _⟩,rfl,hR,h,.refl⟩
 ·rintro _ _ s ⟨_,_,_,_,_,_,_,fs⟩;show fs ls _ hl (λe=>by nomatch e,iB,hl) λ_ e=>by cases e
 ·rintro v rest env s ⟨bv,R1,R2,ao,eR,hr,hx,fs⟩ K hK;have GW:∃xs,s ra=some (.lst xs):=by
   obtain⟨xs,fM⟩:=fB;show⟨xs,fs ra _ fM (λe=>by nomatch e,iB,fM) λ_ e=>by cases e⟩
  revert eR;exact hr.c λa b e p m R2 h1 h2 h3 eR=>?_;have qP:=hb (b,e,m) (by rw[eR];simp);exact B8 (fs _ _ h1 (λe=>by nomatch e,iB,h1) λ_ e=>by cases e) ?_
  obtain⟨ex,rfl,Ci⟩:=ao;obtain⟨e1,h5,u3⟩:=Ci.three;rw[show Tactic.up (Tactic.up (Tactic.up (Cg tp ls bv ex) 86 (.int b)) 62 (.int e)) 63 (.ref p)=Cg tp ls bv ((86,.int b)::(62,.int e)::(63,.ref p)::e1) from congrArg (Cg tp ls bv) (u3 _ _ _),h5.nil];exact afy hx hN qP.1 qP.2.1 qP.2.2 (fs.tp fy ⟨rv,iB⟩) (h2.gu fs iB) GW λbv' s' fj fs'=>?_;have sG:Tx ra s' tr N (vM M (R1++[(b,e,m)])):=by
   unfold vM;rw[List.foldl_append];show fj
  cases bv' with
  |true=>show hK _ _ ⟨true,R1++[(b,e,m)],R2,⟨_,rfl,⟨[_,_,_],rfl⟩⟩,by rw[eR];simp,h3,sG,fs.trans fs'⟩
  |false=>show hK _ _ ⟨bv,R1++[(b,e,m)],R2,⟨_,rfl,⟨[_,_,_],rfl⟩⟩,by rw[eR];simp,h3,sG,fs.trans fs'⟩
 ·rintro env s ⟨bv,R1,R2,ao,eR,hr,hx,fs⟩;cases hr
  rewrite [de] at eR
  subst eR;obtain⟨ex,rfl,_⟩:=ao;show hq bv s hx fs
set_option tactic.hygienic false
def bX.GX{Y vs l l'}(h:bX Y vs l)(h':bX Y vs l'):l=l':=by
 induction h generalizing l' with
 |nil=>cases h';rfl
 |cons u1 u2 ih=>
  cases h' with
  |cons GD GF=>
   nomatch u1,GD
   rw[ih GF]
def GP.GX{Y p m m'}(h:GP Y p m)(h':GP Y p m'):m=m':=by
 obtain⟨l,⟨vs,a,b⟩,_,c⟩:=h;obtain⟨l',⟨cy,a',b'⟩,_,c'⟩:=h'
 nomatch a,a'
 have:=b.GX b';subst this
 funext x
 rw[<-c x,c' x]
theorem Fr.gu{tr Y Y'}(f:Fr [] Y Y'):aV tr Y Y':=λb o e _ _=>f b o e (by simp)
theorem Fr.tQ{a:Nat}(h:Y a=none):Fr [] Y (Tactic.put Y a o):=.new h
def Tree.aB{Y Y' tr sq}(h:Tree Y tr sq)(f:Fr [] Y Y'):Tree Y' tr sq:=by
 obtain⟨v,hv⟩:=h.rt;exact h.fr (λb hb=>?_) ?_
 ·obtain⟨A,B,n,p,rfl⟩:=pg hb;obtain⟨_,_,_,_,e⟩:=h.node;rw[e];show f.k e
 ·rw[hv];show f.k hv
def Tx.aB{ra Y Y' tr N M}(h:Tx ra Y tr N M)(f:Fr [] Y Y'):Tx ra Y' tr N M:=by
 obtain⟨sq,a,b,c⟩:=h;show⟨sq,a.aB f,b,λi p e=>(c i p e).aB f⟩
def GY{A B:List Nd}{x p:Nat}{m:Int}(hA:∀e∈A,0<e.2.1)(h1:sQ A<=i)(h2:(i:Int)<sQ A+m):(bW (A++(x,m,p)::B))[i]?=some p:=by
 have hl:=nP hA;have hL:(bW A).length<=i:=⟨"A.B,a:'B,'A=a",h1,hl⟩;have hx:i-(bW A).length<m.toNat:=⟨"A>B,A+C~D,'D<a+b,'C=a,'B=b;1,1,1,-1,-1",Nat.sub_add_cancel hL,h2,hl,bw ⟨"0:b,a:'A,'A<a+b",h1,h2⟩⟩;rw[BZ,vD,oj hL,mV (by rw[List.length_replicate];show hx),List.getElem?_replicate,if_pos hx]
def akR{n Q X ra Y tp tr N M}{at_:Int}(h:Tx ra Y tr N M)(h0:0<=at_)(h1:at_<N)(fy:Y tp=some (k9 tr))(hq:∀p Y',Fr [] Y Y'->bP ra Y p (M at_.toNat)->Q (.ref p) Y'):(Wn (n+4)).call 18 [.ref tp,.int at_] Q X Y:=by
 obtain⟨sq,ht,hs,hc⟩:=h;exact en (fd:=Jd) rfl ?_;exact lg fy ?_;exact text_len ht ?_;conv=>whnf
 split<;>rename_i e
 ·simp at e;show absurd h1 (Int.not_lt.mpr (hs ▸ e))
 ·exact lg fy ?_;exact vC ht h0 ⟨"a<b,a<c,b=c;1,1,-1",h1,hs⟩ λc A x m p B ia iQ g1 g2=>?_;have hd:Tree (put Y c (.tup [.ref x,.int (sQ A)])) tr sq:=ht.put λcl fs=>by rw[ia];simp
  have yV:∀e∈A,0<e.2.1:=λe he=>ht.pos e (by rw[iQ];simp[he]);exact aab ah (x:=.ref x) rfl ?_;rw[iQ] at hd;obtain⟨_,_,_,_,nx⟩:=hd.yM;exact vo nx ?_;exact hq p _ (.new ia) ?_;have:=hc at_.toNat p (by rw[iQ];show GY yV ⟨"a:'A,a:b,'A=b;1,1,-1",g1,bw ⟨"0:a,0:a",h0⟩⟩ ⟨"'A<a+b,c<a+b,'A=c",g2,bw ⟨"0:a,0:a",h0⟩⟩)
  rwa [Nat.zero_add] at this
class inductive gK(M:Nat->Mp):Int->Int->List (Int×Int×Mp)->Prop
 |nil {b:Int}:gK M b b []
 |cons {b c e:Int}{m:Mp}{R:List (Int×Int×Mp)}:b<c->(∀i:Nat,b<=(i:Int)->(i:Int)<c->M i=m)->gK M c e R->gK M b e ((b,c,m)::R)
def gK.le{M b e R}(h:gK M b e R):b<=e:=by
 induction h with
 |nil=>show⟨"a:a"⟩
 |cons h _ _ ih=>show dX (il h) ih
def gK.snoc{M b c e R m}(h:gK M b c R)(h1:c<e)(h2:∀i:Nat,c<=(i:Int)->(i:Int)<e->M i=m):gK M b e (R++[(c,e,m)]):=by
 induction h with
 |nil=>show .cons h1 h2 .nil
 |cons g1 g2 _ ih=>show .cons g1 g2 (ih h1 h2)
def gK.len{M b e R}(h:gK M b e R):(R.length:Int)<=e-b:=by
 induction h with
 |nil=>simp
 |cons g1 _ _ ih=>simp;show⟨"'A+1:a-b,b<c,'A:a-c",g1,ih⟩
def gK.mem{M b e R}(h:gK M b e R):∀r∈R,b<=r.1/\r.1<r.2.1/\r.2.1<=e/\∀i:Nat,r.1<=(i:Int)->(i:Int)<r.2.1->M i=r.2.2:=by
 induction h with
 |nil=>intro r hr;cases hr
 |cons g1 g2 g3 ih=>
  have:=g3.le;intro r hr;rcases aO.mp hr with rfl | hr
  ·show⟨Int.le_refl _,g1,this,g2⟩
  ·have:=ih r hr;show⟨⟨"a:b,a<c,c:b",g1,this.1⟩,this.2.1,this.2.2.1,this.2.2.2⟩
def RL.app{ra Y vs R cy R'}(h:RL ra Y vs R)(h':RL ra Y cy R'):RL ra Y (vs++cy) (R++R'):=by
 induction h with
 |nil=>show h'
 |cons h1 h2 _ ih=>show .cons h1 h2 ih
class inductive fC(ra:Nat)(Y s:So):List V->List (Int×Int×Mp)->Prop
 |nil:fC ra Y s [] []
 |cons {a b e p m vs R}:s a=some (.tup [.int b,.int e,.ref p])->bP ra Y p m->fC ra Y s vs R->fC ra Y s (.ref a::vs) ((b,e,m)::R)
@[elab_as_elim] def fC.c{ra Y s v vs l}{P:V->List (Int×Int×Mp)->Prop}(h:fC ra Y s (v::vs) l)(k:∀a b e p m R,s a=some (.tup [.int b,.int e,.ref p])->bP ra Y p m->fC ra Y s vs R->P (.ref a) ((b,e,m)::R)):P v l:=by
 cases h with | cons a b c=>show k _ _ _ _ _ _ a b c
def fC.app{ra Y s vs R cy R'}(h:fC ra Y s vs R)(h':fC ra Y s cy R'):fC ra Y s (vs++cy) (R++R'):=by
 induction h with
 |nil=>show h'
 |cons h1 h2 _ ih=>show .cons h1 h2 ih
def fC.fr{ra Y s s' vs R}(h:fC ra Y s vs R)(f:∀a xs,s a=some (.tup xs)->s' a=some (.tup xs)):fC ra Y s' vs R:=by
 induction h with
 |nil=>show .nil
 |cons h1 h2 _ ih=>show .cons (f _ _ h1) h2 ih
def fC.len{ra Y s vs R}(h:fC ra Y s vs R):vs.length=R.length:=by
 induction h with
 |nil=>rfl
 |cons _ _ _ ih=>simp[ih]
def RL.len{ra Y vs R}(h:RL ra Y vs R):vs.length=R.length:=by
 induction h with
 |nil=>rfl
 |cons _ _ _ ih=>simp[ih]
abbrev GZ(tp:Nat)(b e:Int)(c0:Nat)(v:V)(k:Int)(ex:Env):Env:=(27,.ref tp)::(86,.int b)::(62,.int e)::(36,.ref c0)::(93,v)::(98,.int k)::ex
def G0{S e:Int}(h1:b<=e)(h2:e<=S):max b (min S e)=e:=by rw[Int.min_eq_right h2,Int.max_eq_right h1]
def Pm{S e:Int}(h:S<=e):max b (min S e)=max b S:=by rw[Int.min_eq_left h]
def aqG{S e:Int}(h1:b<=e)(h2:S<=b):max b (min S e)=b:=by rw[Int.min_eq_left (dX h2 h1),Int.max_eq_left h2]
def aoV{S:Int}:(if S<b then b else S)=max b S:=by
 by_cases h:S<b
 ·rw[if_pos h,Int.max_eq_left (il h)]
 ·rw[if_neg h,Int.max_eq_right (Int.not_lt.mp h)]
def apv{T e:Int}(h1:b<=e)(h2:b<=T):(if e<T then e else T)=max b (min T e):=by
 by_cases h:e<T
 ·rw[if_pos h,G0 h1 (il h)]
 ·rw[if_neg h,Pm (Int.not_lt.mp h),Int.max_eq_right h2]
def apY{S k e:Int}(h1:b<e)(h2:S<e)(h3:b<S+k)(h4:0<k):max b S<max b (min (S+k) e):=by
 rw[Int.max_eq_right (Int.le_min.2 ⟨il h3,il h1⟩)];show Int.lt_min.2 ⟨Int.max_lt.2 ⟨h3,Int.lt_add_of_pos_right _ h4⟩,Int.max_lt.2 ⟨h1,h2⟩⟩
def Pn{n Q X ra Yp Y tp tr N M}{e:Int}(h:Tx ra Yp tr N M)(fp:Fr [] Yp Y)(hN:N<=800)(h0:0<=b)(h1:b<=e)(h2:e<=N)(fy:Y tp=some (k9 tr))
  (hq:∀c Y' vs R,Y c=none->Fr [] Y Y'->Y' c=some (.lst vs)->fC ra Yp Y' vs R->gK M b e R->Q (.ref c) Y'):(Wn (n+4)).call 42 [.ref tp,.int b,.int e] Q X Y:=by
 obtain⟨sq,G3,hs,hc⟩:=h;have ht:=G3.aB fp;exact en (fd:=Jv) rfl ?_;intro c0 n0;have aB:Fr [] Y (put Y c0 (.lst [])):=.new n0;conv=>whnf
 split<;>rename_i g
 ·simp at g;have:b=e:=⟨"a=b,a:b,b:a;1,1,0;1,0,1",h1,g⟩;subst this;show hq c0 _ [] [] n0 aB ah .nil .nil
 ·simp at g;exact lg (aB.k fy) ?_;exact vC (ht.aB aB) h0 ⟨"a<b,c:d,b=d,a<c;1,1,-1,1",h2,hs,g⟩ λc A x m p B ia iQ g1 g2=>?_;have et:Fr [] Y (put (put Y c0 (.lst [])) c (.tup [.ref x,.int (sQ A)])):=aB.trans (.new ia)
  exists ah
  exact⟨rfl,?_⟩;have cc0:c0≠c:=λe=>by rw[<-e,ah] at ia;cases ia
  have pos:=ht.pos;have hlen:=ph pos;intro P hP;have key:∀(D A:List Nd) (s:So) (vs:List V) (R:List (Int×Int×Mp)) (env:Env),sq=A++D->(∀y k q D',D=(y,k,q)::D'->b<sQ A+k)->(D=[]->e<=sQ A)->Fr [] Y s->s c0=some (.lst vs)->fC ra Yp s vs R->gK M b (max b (min (sQ A) e)) R->(∃ex,env=GZ tp b e c0 (jh D) (sQ A) ex/\Suf [87] ex)->P env s:=by
   intro D;induction D with
   |nil=>
    intro A s vs R env eS hd hn fs bQ hR hC ao;have fin:Q (.ref c0) s:=by
     rw[G0 h1 (hn rfl)] at hC;show hq c0 s vs R n0 fs bQ hR hC
    obtain⟨ex,rfl,hx⟩:=ao;exact hP _ _ ?_;show fin
   |cons y D ih=>
    intro A s vs R env eS hd hn fs bQ hR hC ao;obtain⟨y,k,q⟩:=y;have ts:Tree s tr (A++(y,k,q)::D):=eS ▸ ht.aB fs;obtain⟨_,_,_,_,ny⟩:=ts.yM;have pk:0<k:=pos (y,k,q) (by rw[eS];simp);have pA:∀e∈A,0<e.2.1:=λe he=>pos e (by rw[eS];simp[he]);have vJ:=qC pA;have y6:=hd y k q D rfl;have fin:e<=sQ A->Q (.ref c0) s:=λEd=>by
     rw[G0 h1 Ed] at hC;show hq c0 s vs R n0 fs bQ hR hC
    have jw:vs.length<=800:=⟨"A.800,A~B,'B:a-b,a:c,c:d,d:800,0:b",hR.len,hC.len,Int.max_le.2 ⟨h1,Int.min_le_right (sQ A) e⟩,h2,hN,h0⟩;have turn:∀ex,Suf [87] ex->sQ A<e->wSs (Wn (n+3)) [.asg (.v 87) (.ar .add (.v 98) (.call 48 [(.v 93)])),.ex (.lm .append (.v 36) [(.tup [(.bi .max [(.v 98),(.v 86)]),(.bi .min [(.v 87),(.v 62)]),(.attr (.v 93) 63)])]),.asg (.v 98) (.v 87),.asg (.v 93) (.call 53 [(.v 93)])] (GZ tp b e c0 (.ref y) (sQ A) ex) P Q aN s:=by
     intro ex hx kZ;have main:∀c2,s c2=none->put s c2 (.tup [.int (if sQ A<b then b else sQ A),.int (if e<sQ A+k then e else sQ A+k),.ref q]) c0=some (.lst vs)/\Tree (put (put s c2 (.tup [.int (if sQ A<b then b else sQ A),.int (if e<sQ A+k then e else sQ A+k),.ref q])) c0 (.lst (vs++[.ref c2]))) tr (A++(y,k,q)::D)/\∀(nx:V),nx=jh D->P [(27,.ref tp),(86,.int b),(62,.int e),(36,.ref c0),(93,nx),(98,.int (sQ A+k)),(87,.int (sQ A+k))] (put (put s c2 (.tup [.int (if sQ A<b then b else sQ A),.int (if e<sQ A+k then e else sQ A+k),.ref q])) c0 (.lst (vs++[.ref c2]))):=by
      intro c2 dB;have tT:c0≠c2:=λe=>by rw[<-e,bQ] at dB;cases dB
      exact⟨by rw[ae tT];show bQ,(ts.put λcl fs=>by rw[dB];simp).put λcl fs=>by rw[ae tT,bQ];simp,?_⟩;rintro nx rfl;have gw:sQ (A++[(y,k,q)])=sQ A+k:=by rw[dE,iE];show _+(k+0)=_;show⟨"a+(b+0)=a+b"⟩
      have jE:Fr [] s (put s c2 (.tup [.int (if sQ A<b then b else sQ A),.int (if e<sQ A+k then e else sQ A+k),.ref q])):=.new dB;have fs2:=fs.trans jE;have fs3:Fr [] Y (put (put s c2 (.tup [.int (if sQ A<b then b else sQ A),.int (if e<sQ A+k then e else sQ A+k),.ref q])) c0 (.lst (vs++[.ref c2]))):=λa o ha hn=>by
       rw[ae λe=>by nomatch e,n0,ha]
       show fs2 a o ha hn
      have m0:((max b (sQ A)).toNat:Int)=max b (sQ A):=bw (dX h0 (Int.le_max_left _ _));have r6:=GY (x:=y) (p:=q) (m:=k) (B:=D) pA (i:=(max b (sQ A)).toNat) (by rw[m0];show Int.le_max_right _ _) (by rw[m0];show Int.max_lt.2 ⟨y6,Int.lt_add_of_pos_right _ pk⟩);have gq:bP ra Yp q (M (max b (sQ A)).toNat):=by
       have:=hc _ _ (eS ▸ r6)
       rwa [Nat.zero_add] at this
      have frl:Fr [c0] s (put (put s c2 (.tup [.int (if sQ A<b then b else sQ A),.int (if e<sQ A+k then e else sQ A+k),.ref q])) c0 (.lst (vs++[.ref c2]))):=λa o ha hn=>by
       rw[ae λe=>hn (by rw[e];show .head _)];show jE a o ha (by simp)
      have hR2:fC ra Yp (put (put s c2 (.tup [.int (if sQ A<b then b else sQ A),.int (if e<sQ A+k then e else sQ A+k),.ref q])) c0 (.lst (vs++[.ref c2]))) (vs++[.ref c2]) (R++[(if sQ A<b then b else sQ A,if e<sQ A+k then e else sQ A+k,M (max b (sQ A)).toNat)]):=by
       exact(hR.fr λa xs ha=>?_).app (.cons ?_ gq .nil)
       ·show frl a _ ha λhm=>by simp at hm;nomatch hm,bQ,ha
       ·rw[ae (aaa tT)];show ah
      exact ih (A++[(y,k,q)]) _ _ _ _ (by rw[eS];simp) (λy' k' q' D' eD=>?_) (λeD=>?_) fs3 ah hR2 ?_ ⟨[(87,_)],by rw[gw],⟨[_],rfl⟩⟩
      ·have:0<k':=pos (y',k',q') (by rw[eS,eD];simp);rw[gw];show⟨"a<b+c+d,a<b+c,0<d",y6,this⟩
      ·rw[gw];rw[eS,eD,dE,iE] at hs;have:sQ A+(k+0)=N:=hs;show⟨"a:b+c,a:d,b+(c+0)=d;1,1,-1",h2,this⟩
      ·rw[gw];rw[Pm (il kZ)] at hC;rw[aoV,apv h1 (il y6)];exact hC.snoc (apY g kZ y6 pk) λi i1 i2=>?_;have G4:=GY (x:=y) (p:=q) (m:=k) (B:=D) pA (i:=i) ⟨"a:'A,b:'A,a:b",i1,Int.le_max_right _ _⟩ (Int.lt_of_lt_of_le i2 (Int.max_le.2 ⟨il y6,Int.min_le_left _ _⟩));have g2:bP ra Yp q (M i):=by
        have:=hc _ _ (eS ▸ G4)
        rwa [Nat.zero_add] at this
       show g2.2.GX gq.2
     exact yy ts ?_;show wSs (Wn (n+3)) _ (GZ tp b e c0 (.ref y) (sQ A) (Tactic.up ex 87 (.int (sQ A+k)))) P Q aN s;rw[hx.up1]
     exists bQ
     exact vo ny ?_;intro c2 dB;obtain⟨m1,m3,m2⟩:=main c2 dB
     exists m1
     exact⟨by unfold big;show⟨"A>100000,A.800",jw⟩,?_⟩;exact following m3 ?_;show m2 _ rfl
    obtain⟨ex,rfl,hx⟩:=ao;exact hP _ _ ?_;conv=>whnf
    split<;>rename_i g3
    ·simp at g3;show turn _ hx g3
    ·simp at g3;show fin g3
  exact key ((x,m,p)::B) A _ [] [] _ iQ (λy k q D' eD=>?_) (λeD=>by cases eD) et (by rw[ae cc0];show ah) .nil ?_ ⟨[],rfl,.none _⟩
  ·injection eD with e1 e2;injection e1 with e3 e4;injection e4 with e4 e5;show⟨"a<b+c,a<b+d,d=c",g2,e4⟩
  ·rw[aqG h1 ⟨"a:b,a:b",g1⟩];show .nil
def bD(ra:Nat)(Y Y':So):Prop:=∀b o,Y b=some o->(∀c fs,o≠.inst c fs)->b≠ra->Y' b=some o
theorem bD.refl{ra Y}:bD ra Y Y:=λ_ _ e _ _=>e
theorem bD.trans{ra:Nat}(x:bD ra Y1 Y2)(y:bD ra Y2 Y3):bD ra Y1 Y3:=λb o e n i=>y b o (x b o e n i) n i
theorem Fr.bI{ra Y Y'}(f:Fr [] Y Y'):bD ra Y Y':=λb o e _ _=>f b o e (by simp)
theorem aV.bI{ra tr Y Y' v}(f:aV tr Y Y')(ht:Y tr=some (hZ v)):bD ra Y Y':=λb o e n _=>f b o e (λq=>by nomatch q,ht,e;show n _ _ rfl) λfs=>n 1 fs
theorem bD.inst{ra Y a c fs o}(h:Y a=some (.inst c fs)):bD ra Y (Tactic.put Y a o):=λb ob e n _=>by
 rw[ae λq=>by nomatch q,h,e;show n _ _ rfl];show e
theorem bD.self{ra Y o}:bD ra Y (Tactic.put Y ra o):=λb ob e n i=>by rw[ae i];show e
def GP.bI{ra Y Y' p m xs}(h:GP Y p m)(f:bD ra Y Y')(hp:p≠ra)(hr:Y ra=some (.lst xs)):GP Y' p m:=by
 obtain⟨l,⟨vs,h1,h2⟩,h3,h4⟩:=h;show⟨l,⟨vs,f p _ h1 (λ_ _ e=>by cases e) hp,h2.fr λa xs ha=>f a _ ha (λ_ _ e=>by cases e) λe=>by nomatch e,hr,ha⟩,h3,h4⟩
theorem bP.bI{ra Y Y' p m xs}(h:bP ra Y p m)(f:bD ra Y Y')(hr:Y ra=some (.lst xs)):bP ra Y' p m:=⟨h.1,h.2.bI f h.1 hr⟩
set_option genInjectivity true in
inductive Row where
 |aW
 |dP (t:Int)
 |prop (s e k:Int) (v:Option Int)
def Row.ctorIdx(v:Row):Nat:=(by cases v with | aW=>show 0 | dP=>show 1 | prop=>show 2)
def oV:Option Int->V
 |none=>.none
 |some t=>.int t
def aba(Y:So)(a:Nat):Row->Prop
 | .aW=>a=884/\Y a=some (.tup [.str 16])
 | .dP t=>Y a=some (.tup [.str 71,.int t])
 | .prop s e k none=>Y a=some (.tup [.str 70,.int s,.int e,.int k,.none])
 | .prop s e k (some v)=>∃b,Y a=some (.tup [.str 70,.int s,.int e,.int k,.ref b])/\Y b=some (.tup [.int v])
class inductive UR(Y:So):List V->List Row->Prop
 |nil:UR Y [] []
 |cons {a r vs L}:aba Y a r->UR Y vs L->UR Y (.ref a::vs) (r::L)
@[elab_as_elim] def UR.c{Y v vs l}{P:V->List Row->Prop}(h:UR Y (v::vs) l)(k:∀a r L,aba Y a r->UR Y vs L->P (.ref a) (r::L)):P v l:=by
 cases h with | cons a b=>show k _ _ _ a b
def aba.fr{Y Y' a r}(h:aba Y a r)(f:∀a xs,Y a=some (.tup xs)->Y' a=some (.tup xs)):aba Y' a r:=by
 cases r with
 |aW=>show⟨h.1,f _ _ h.2⟩
 |dP t=>show f _ _ h
 |prop s e k v=>
  cases v with
  |none=>show f _ _ h
  |some v=>show⟨h.choose,f _ _ h.choose_spec.1,f _ _ h.choose_spec.2⟩
def UR.fr{Y Y' vs L}(h:UR Y vs L)(f:∀a xs,Y a=some (.tup xs)->Y' a=some (.tup xs)):UR Y' vs L:=by
 induction h with
 |nil=>show .nil
 |cons h _ ih=>show .cons (h.fr f) ih
def UR.app{Y vs L cy L'}(h:UR Y vs L)(h':UR Y cy L'):UR Y (vs++cy) (L++L'):=by
 induction h with
 |nil=>show h'
 |cons h _ ih=>show .cons h ih
def UR.len{Y vs L}(h:UR Y vs L):vs.length=L.length:=by
 induction h with
 |nil=>rfl
 |cons _ _ ih=>simp[ih]
theorem bD.tup{ra Y Y' xs}(f:bD ra Y Y')(hr:Y ra=some (.lst xs)):∀a ys,Y a=some (.tup ys)->Y' a=some (.tup ys):=λa ys h=>f a _ h (λ_ _ e=>by cases e) λe=>by nomatch e,hr,h
structure Cf where
 bf:Nat
 tx:Nat
 mks:Nat
 ls:Nat
 un:Nat
 ul:Nat
 tp:Nat
 tr:Nat
 ce:Nat
 pt:Int
 ct:Int
 N:Int
 room:Int
 gs:Int
 ge:Int
abbrev vN(c:Cf)(rd:Bool)(tk sv:Int):O:=.inst 7 [(39,.int 1),(40,.str 25),(41,.ref c.tx),(43,.ref c.mks),(44,.int c.pt),(45,.int 1),(46,.int (c.N+1)),(47,.none),(48,.bool true),(11,.bool rd),(9,.int tk),(49,.int c.ct),(50,.int sv),(51,.ref c.ls),(14,.ref c.un),(27,.ref c.tp),(52,.none),(53,.none),(54,.none),(55,.none)]
abbrev unO(c:Cf):O:=.inst 10 [(15,.ref c.ul)]
abbrev nS(ra:Nat)(nt:Option Int):O:=.inst 8 [(17,.ref ra),(80,.int 0),(81,.bool true),(82,.none),(83,oV nt)]
abbrev txO(c:Cf):O:=.inst 4 [(42,.int c.room),(73,.ref c.ce),(74,.int c.gs),(75,.int c.ge)]
structure Bs(c:Cf)(Y:So)(ra:Nat)(rd:Bool)(tk sv:Int)(nt:Option Int)(L:List Row)(M:Nat->Mp):Prop where
 bf:Y c.bf=some (vN c rd tk sv)
 un:Y c.un=some (unO c)
 ul:Y c.ul=some (nS ra nt)
 rows:∃xs,Y ra=some (.lst xs)/\UR Y xs L
 ls:Y c.ls=some (.lst [])/\c.ls≠ra
 tx:Y c.tx=some (txO c)
 ce:∃xs,Y c.ce=some (.lst xs)/\(xs.length:Int)-c.ge+c.gs=c.N/\c.ce≠ra
 tp:Y c.tp=some (k9 c.tr)
 tree:Tx ra Y c.tr c.N M
 aW:Y 884=some (.tup [.str 16])
def Bs.aB{c Y Y' ra rd tk sv nt L M}(h:Bs c Y ra rd tk sv nt L M)(f:Fr [] Y Y'):Bs c Y' ra rd tk sv nt L M:=by
 have g:∀{b o},Y b=some o->Y' b=some o:=λe=>f.k e
 obtain⟨xs,h1,h2⟩:=h.rows;obtain⟨ys,h3,h4⟩:=h.ce;show⟨g h.bf,g h.un,g h.ul,⟨xs,g h1,h2.fr λa xs e=>g e⟩,⟨g h.ls.1,h.ls.2⟩,g h.tx,⟨ys,g h3,h4⟩,g h.tp,h.tree.aB f,g h.aW⟩
def Bs.gu{c Y Y' ra rd tk sv nt L M M'}(h:Bs c Y ra rd tk sv nt L M)(f:aV c.tr Y Y')(ht:Tx ra Y' c.tr c.N M'):Bs c Y' ra rd tk sv nt L M':=by
 obtain⟨v,hv⟩:=h.tree.ex.choose_spec.1.rt;have g:∀{b o},Y b=some o->o≠hZ v->(∀fs,o≠.inst 1 fs)->Y' b=some o:=λe n i=>f _ _ e (λq=>by nomatch q,hv,e;show n rfl) i
 obtain⟨xs,h1,h2⟩:=h.rows;obtain⟨ys,h3,h4⟩:=h.ce;show⟨g h.bf (by simp) (by simp),g h.un (by simp) (by simp),g h.ul (by simp) (by simp),⟨xs,g h1 (by simp) (by simp),h2.fr λa xs e=>g e (by simp) (by simp)⟩,⟨g h.ls.1 (by simp) (by simp),h.ls.2⟩,g h.tx (by simp) (by simp),⟨ys,g h3 (by simp) (by simp),h4⟩,g h.tp (by simp) (by simp),ht,g h.aW (by simp) (by simp)⟩
def Tx.put{ra Y tr N M b}(h:Tx ra Y tr N M)(h1:∀fs,Y b≠some (.inst 1 fs))(h2:b≠tr)(h3:(∀xs,Y b≠some (.tup xs))/\(b=ra\/∀xs,Y b≠some (.lst xs))):Tx ra (Tactic.put Y b o) tr N M:=by
 obtain⟨sq,a,e,d⟩:=h;exact⟨sq,a.fr (λx hx=>ae λq=>?_) (ae (aaa h2)),e,λi p hp=>?_⟩
 ·obtain⟨A,B,n,p,rfl⟩:=pg hx;obtain⟨_,_,_,_,e⟩:=a.node;show h1 _ (q ▸ e)
 ·obtain⟨q0,l,⟨vs,q1,q2⟩,q3,q4⟩:=d i p hp;exact⟨q0,l,⟨vs,?_,q2.fr λx xs hx=>?_⟩,q3,q4⟩
  ·rw[ae λq=>?_]
   ·show q1
   ·rcases h3.2 with e | e
    ·show q0 (q.trans e)
    ·show e _ (q ▸ q1)
  ·rw[ae λq=>h3.1 xs (by rw[<-q];show hx)];show hx
def Bs.Cp{c Y ra rd tk sv nt L M rd' tk' sv'}(h:Bs c Y ra rd tk sv nt L M):Bs c (put Y c.bf (vN c rd' tk' sv')) ra rd' tk' sv' nt L M:=by
 obtain⟨v,hv⟩:=h.tree.ex.choose_spec.1.rt;have g:∀{b o},Y b=some o->o≠vN c rd tk sv->put Y c.bf (vN c rd' tk' sv') b=some o:=λe n=>by
  rw[ae λq=>by nomatch q,h.bf,e;show n rfl];show e
 obtain⟨xs,h1,h2⟩:=h.rows;obtain⟨ys,h3,h4⟩:=h.ce;exact⟨ah,g h.un (by simp),g h.ul (by simp),⟨xs,g h1 (by simp),h2.fr λa xs e=>g e (by simp)⟩,⟨g h.ls.1 (by simp),h.ls.2⟩,g h.tx (by simp),⟨ys,g h3 (by simp),h4⟩,g h.tp (by simp),h.tree.put (by rw[h.bf];simp) (λe=>by have:=h.bf;nomatch e,hv,this) ⟨by rw[h.bf];simp,.inr (by rw[h.bf];simp)⟩,g h.aW (by simp)⟩
def Bs.apt{c Y ra rd tk sv nt L M nt'}(h:Bs c Y ra rd tk sv nt L M):Bs c (put Y c.ul (nS ra nt')) ra rd tk sv nt' L M:=by
 obtain⟨v,hv⟩:=h.tree.ex.choose_spec.1.rt;have g:∀{b o},Y b=some o->o≠nS ra nt->put Y c.ul (nS ra nt') b=some o:=λe n=>by
  rw[ae λq=>by nomatch q,h.ul,e;show n rfl];show e
 obtain⟨xs,h1,h2⟩:=h.rows;obtain⟨ys,h3,h4⟩:=h.ce;exact⟨g h.bf (by simp),g h.un (by simp),ah,⟨xs,g h1 (by simp),h2.fr λa xs e=>g e (by simp)⟩,⟨g h.ls.1 (by simp),h.ls.2⟩,g h.tx (by simp),⟨ys,g h3 (by simp),h4⟩,g h.tp (by simp),h.tree.put (by rw[h.ul];simp) (λe=>by have:=h.ul;nomatch e,hv,this) ⟨by rw[h.ul];simp,.inr (by rw[h.ul];simp)⟩,g h.aW (by simp)⟩
def Bs.Cq{c Y ra rd tk sv nt L M a r xs}(h:Bs c Y ra rd tk sv nt L M)(hx:Y ra=some (.lst xs))(hr:aba Y a r):Bs c (put Y ra (.lst (xs++[.ref a]))) ra rd tk sv nt (L++[r]) M:=by
 obtain⟨v,hv⟩:=h.tree.ex.choose_spec.1.rt;obtain⟨dQ,h1,h2⟩:=h.rows
 nomatch hx,h1
 have g:∀{b o},Y b=some o->(∀ys,o≠.lst ys)->put Y ra (.lst (xs++[.ref a])) b=some o:=λe n=>by
  rw[ae λq=>by nomatch q,hx,e;show n _ rfl];show e
 obtain⟨ys,h3,h4,h5⟩:=h.ce;exact⟨g h.bf (by simp),g h.un (by simp),g h.ul (by simp),⟨_,ah,(h2.app (.cons hr .nil)).fr λa xs e=>g e (by simp)⟩,⟨by rw[ae h.ls.2];show h.ls.1,h.ls.2⟩,g h.tx (by simp),⟨ys,by rw[ae h5];show h3,h4,h5⟩,g h.tp (by simp),h.tree.put (by rw[hx];simp) (λe=>by nomatch e,hv,hx) ⟨by rw[hx];simp,.inl rfl⟩,g h.aW (by simp)⟩
def bY(s e:Int):Int:=if e<s then e else s
def cA(s e:Int):Int:=if s<e then e else s
def Pp{s e:Int}:bY s e<=cA s e:=by
 unfold bY cA;by_cases h:e<s
 ·rw[if_pos h,if_neg (Int.not_lt.mpr (il h))];show il h
 ·rw[if_neg h];by_cases g:s<e
  ·rw[if_pos g];show il g
  ·rw[if_neg g];show Int.le_refl _
def Pq{n Q X c Y ra rd tk sv nt L M}{s e:Int}(h:Bs c Y ra rd tk sv nt L M)(hx:(bY s e<1\/c.N+1<cA s e)->∀Y',Fr [] Y Y'->X 34 Y')
  (hq:1<=bY s e->cA s e<=c.N+1->∀a Y',Fr [] Y Y'->Y' a=some (.tup [.int (bY s e),.int (cA s e)])->Q (.ref a) Y'):(Wn (n+1)).call 29 [.ref c.bf,.int s,.int e] Q X Y:=by
 exact en (fd:=Jl) rfl ?_;unfold bY cA at hx hq;intro a ha;have f1:Fr [] Y (put Y a (.tup [.int (if e<s then e else s),.int (if s<e then e else s)])):=.new ha;generalize (if e<s then e else s)=lo at *;generalize (if s<e then e else s)=hi at *;have gJ:=f1.k h.bf;have y7:(lo<1\/c.N+1<hi)->wSs (Wn n) [.raise 34 (.list [(.v 61),(.v 62)])] [(3,.ref c.bf),(61,.int s),(62,.int e),(84,.int lo),(85,.int hi)] (λm s=>wSs (Wn n) [.ret (.tup [(.v 84),(.v 85)])] m (qN Q) Q X s) Q X (put Y a (.tup [.int lo,.int hi])):=λg=>by
  intro b hb;show hx g _ (f1.trans (.new hb))
 exists ah
 exact⟨rfl,?_⟩;exact aA gJ ?_;conv=>whnf
 split<;>rename_i e1
 ·simp at e1;show y7 (.inl e1)
 ·simp at e1;exact aA gJ ?_;conv=>whnf
  split<;>rename_i e2
  ·simp at e2;show y7 (.inr e2)
  ·simp at e2;intro b hb;show hq e1 e2 b _ (f1.trans (.new hb)) ah
def Pr{n Q X c Y ra rd tk sv nt L M}(h:Bs c Y ra rd tk sv nt L M)(hx:rd=true->∀Y',Fr [] Y Y'->X 35 Y')(hq:rd=false->Q .none Y):(Wn (n+1)).call 30 [.ref c.bf] Q X Y:=by
 exact en (fd:=Jm) rfl ?_;exact aA h.bf ?_;cases rd with
 |true=>
  exact aA h.bf ?_;intro b hb;show hx rfl _ (.new hb)
 |false=>show hq rfl
def G5{n Q X c Y ra rd tk sv nt L M}(h:Bs c Y ra rd tk sv nt L M)(hq:Q (.bool (decide (sv<tk))) Y):(Wn (n+1)).call 80 [.ref c.bf] Q X Y:=by
 exact en (fd:=J4) rfl ?_;exact aA h.bf ?_;exact aA h.bf ?_;show hq
def G6{n Q X c Y ra rd tk sv nt L M}(h:Bs c Y ra rd tk sv nt L M)(hq:Q (.int tk) Y):(Wn (n+1)).call 88 [.ref c.bf] Q X Y:=by
 exact en (fd:=Ka) rfl ?_;exact aA h.bf ?_;show hq
def Pu{n Q X c Y ra rd tk sv nt L M}(h:Bs c Y ra rd tk sv nt L M)(hq:∀Y',Bs c Y' ra rd (tk+1) sv nt L M->bD ra Y Y'->Q .none Y'):(Wn (n+1)).call 89 [.ref c.bf,.bool false] Q X Y:=by
 exact en (fd:=pW) rfl ?_;exact aA h.bf ?_;exact sat h.bf ?_;show hq _ h.Cp (.inst h.bf)
def ak7{n Q X c Y ra rd tk sv nt L M}(h:Bs c Y ra rd tk sv nt L M)(hq:Q (.int c.N) Y):(Wn (n+1)).call 86 [.ref c.tx] Q X Y:=by
 obtain⟨xs,h1,h2,h3⟩:=h.ce;exact en (fd:=J8) rfl ?_;exact aA h.tx ?_
 exists h1
 exact aA h.tx ?_;exact aA h.tx ?_;show Q (.int ((xs.length:Int)-c.ge+c.gs)) Y;rw[h2];show hq
def apr{n Q X c Y ra rd tk sv nt L M}(h:Bs c Y ra rd tk sv nt L M)(hq:Q (.int c.N) Y):(Wn (n+2)).call 87 [.ref c.bf] Q X Y:=by
 exact en (fd:=J9) rfl ?_;exact aA h.bf ?_
 exists h.tx
 show ak7 h hq
def pc(tk sv:Int)(nt:Option Int):List Row:=if tk<=sv/\nt≠some sv then [.dP sv] else []
def fE(tk sv:Int)(nt:Option Int):Option Int:=if tk<=sv then some sv else nt
def aij{n Q X c Y ra rd tk sv nt L M}(h:Bs c Y ra rd tk sv nt L M)(hL:L.length<90000)(hq:∀Y',Bs c Y' ra rd tk sv (fE tk sv nt) (L++pc tk sv nt) M->bD ra Y Y'->Q .none Y'):(Wn (n+2)).call 95 [.ref c.ul,.bool (decide (sv<tk)),.int sv] Q X Y:=by
 exact en (fd:=Kf) rfl ?_;unfold pc fE at hq;by_cases g:sv<tk
 ·rw[dJ g];have:¬ tk<=sv:=⟨"!a:b,b<a",g⟩;rw[if_neg this,if_neg (λe=>this e.1),de] at hq;show hq Y h .refl
 ·rw[fS g];have g':tk<=sv:=⟨"a:b,!b<a",g⟩;exact aA h.ul ?_;have body:nt≠some sv->wSs (Wn (n+1)) [.ex (.lm .append (.attr (.v 22) 17) [(.tup [(.cS 71),(.v 10)])]),.asg (.attr (.v 22) 83) (.v 10)] [(22,.ref c.ul),(21,.bool false),(10,.int sv)] (λm s=>Q .none s) Q X Y:=λhn=>by
   rw[if_pos g',if_pos ⟨g',hn⟩] at hq;obtain⟨xs,hx,hu⟩:=h.rows;have hlen:=hu.len;exact aA h.ul ?_
   exists hx
   intro a ha;have f1:Fr [] Y (put Y a (.tup [.str 71,.int sv])):=.new ha;have h1:=h.aB f1;have bT:=f1.k hx;have h2:=h1.Cq (a:=a) (r:=.dP sv) bT ah
   exists bT
   exact⟨by unfold big;show⟨"A>100000,B>90000,A~B",hL,hlen⟩,?_⟩;exact sat h2.ul ?_;show hq _ (h2.apt (nt':=some sv)) ((f1.bI.trans .self).trans (.inst h2.ul))
  cases nt with
  |none=>show body (by simp)
  |some t=>
   conv=>whnf
   split<;>rename_i e
   ·simp at e;show body λe'=>e (by simpa using e'.symm)
   ·simp at e;clear body;subst e;rw[if_pos g',if_neg (λe'=>e'.2 rfl),de] at hq;show hq Y h .refl
def afV{n Q X c Y ra rd tk sv nt L M v}{ev:Option Int}{s e k:Int}(h:Bs c Y ra rd tk sv nt L M)(hL:L.length<80000)(G7:s<e)(hv:match ev with | none=>v=.none | some j=>∃b,v=.ref b/\Y b=some (.tup [.int j]))
  (hq:∀Y',Bs c Y' ra rd tk sv (fE tk sv nt) (L++pc tk sv nt++[.prop s e k ev]) M->bD ra Y Y'->Q .none Y'):(Wn (n+3)).call 92 [.ref c.ul,.int s,.int e,.int k,v,.bool (decide (sv<tk)),.int sv] Q X Y:=by
 have jC:wSs (Wn (n+2)) Dm.body [(22,.ref c.ul),(61,.int s),(62,.int e),(39,.int k),(107,v),(21,.bool (decide (sv<tk))),(10,.int sv)] (qN Q) Q X Y->(Wn (n+3)).call 92 [.ref c.ul,.int s,.int e,.int k,v,.bool (decide (sv<tk)),.int sv] Q X Y:=λh=>en (fd:=Dm) rfl h (h2:=by
  clear hq;cases ev with
  |none=>rw[hv];rfl
  |some j=>clear h;obtain⟨b,rfl,_⟩:=hv;rfl)
 exact jC ?_;clear jC;exact aA h.ul ?_;conv=>whnf
 split<;>rename_i g
 ·exists h.ul
  exact aij h ⟨"A>90000,A>80000",hL⟩ λY1 h1 f1=>?_;have iO:(pc tk sv nt).length<=1:=by unfold pc;split<;>simp
  obtain⟨xs,hx,hu⟩:=h1.rows;have hlen:=hu.len;simp at hlen;exact aA h1.ul ?_
  exists hx
  cases ev with
  |none=>
   subst hv;intro a ha;have f2:Fr [] Y1 (put Y1 a (.tup [.str 70,.int s,.int e,.int k,.none])):=.new ha;have h2:=h1.aB f2;have bT:=f2.k hx;have h3:=h2.Cq (a:=a) (r:=.prop s e k none) bT ah
   exists bT
   exact⟨by unfold big;show⟨"A>100000,B>80000,C.1,A~B+C",hL,iO,hlen⟩,?_⟩;show hq _ h3 ((f1.trans f2.bI).trans .self)
  |some j=>
   obtain⟨b,rfl,hb⟩:=hv;obtain⟨xs0,E5,_⟩:=h.rows;have Cr:=f1.tup E5 _ _ hb;intro a ha;have f2:Fr [] Y1 (put Y1 a (.tup [.str 70,.int s,.int e,.int k,.ref b])):=.new ha;have h2:=h1.aB f2;have bT:=f2.k hx;have h3:=h2.Cq (a:=a) (r:=.prop s e k (some j)) bT ⟨b,ah,f2.k Cr⟩
   exists bT
   exact⟨by unfold big;show⟨"A>100000,B>80000,C.1,A~B+C",hL,iO,hlen⟩,?_⟩;show hq _ h3 ((f1.trans f2.bI).trans .self)
 ·simp at g;show absurd G7 (Int.not_lt.mpr g)
def Pw{n Q X c Y ra rd tk sv nt L M v}{ev:Option Int}{s e k:Int}(h:Bs c Y ra rd tk sv nt L M)(hL:L.length<80000)(G7:s<e)(hv:match ev with | none=>v=.none | some j=>∃b,v=.ref b/\Y b=some (.tup [.int j]))
  (hq:∀Y',Bs c Y' ra rd tk sv (fE tk sv nt) (L++pc tk sv nt++[.prop s e k ev]) M->bD ra Y Y'->Q .none Y'):(Wn (n+4)).call 81 [.ref c.un,.ref c.bf,.int s,.int e,.int k,v] Q X Y:=by
 have fin:(Wn (n+3)).call 92 [.ref c.ul,.int s,.int e,.int k,v,.bool (decide (sv<tk)),.int sv] (λ_ s=>Q .none s) X Y:=afV h hL G7 hv λY' h' f'=>hq Y' h' f';clear hq;cases ev with
 |none=>
  subst hv;exact en (fd:=Dj) rfl ?_;exact aA h.un ?_
  exists h.ul
  exists h.bf
  exact G5 h ?_;exact aA h.bf ?_;show fin
 |some j=>
  obtain⟨b,rfl,hb⟩:=hv;exact en (fd:=Dj) rfl ?_;exact aA h.un ?_
  exists h.ul
  exists h.bf
  exact G5 h ?_;exact aA h.bf ?_;show fin
def Px{tk sv nt}:fE tk sv (fE tk sv nt)=fE tk sv nt:=by unfold fE;split<;>rfl
def Py{tk sv nt}:pc tk sv (fE tk sv nt)=[]:=by
 unfold pc fE;by_cases g:tk<=sv
 ·rw[if_pos g,if_neg (λe=>e.2 rfl)]
 ·rw[if_neg g,if_neg (λe=>g e.1)]
def G8{tk sv nt}:(pc tk sv nt).length<=1:=by unfold pc;split<;>simp
inductive LT(c:Cf)(b e:Int)(p q ra c0:Nat)(Y:So)(rd:Bool)(tk sv:Int)(nt:Option Int)(L:List Row)(M:Nat->Mp)(m1:Mp)(ks:List Int)(rest:List V)(env:Env)(s:So):Prop
 |mk (k1 k2:List Int):ks=k1++k2->rest=k2.map V.int->(∃ex,env=(3,V.ref c.bf)::(86,.int b)::(62,.int e)::(66,.ref p)::(105,.ref q)::ex/\Suf [39] ex)->Bs c s ra rd tk sv (if k1=[] then nt else fE tk sv nt) (L++(if k1=[] then [] else pc tk sv nt)++k1.map λk=>.prop (b+1) (e+1) k (m1 k)) M->bD ra Y s->s c0=some (.lst (ks.map V.int))->LT c b e p q ra c0 Y rd tk sv nt L M m1 ks rest env s
def aiR{n Q X c Y ra rd tk sv nt L M p q m1 m2}{e:Int}(h:Bs c Y ra rd tk sv nt L M)(hL:L.length<70000)(ya:b<e)(hp:GP Y p m1)(hpr:p≠ra)(d7:GP Y q m2)(au:m1≠m2)
  (hq:∀Y' (ks:List Int),ks.length<=6->(∀k∈ks,(0<=k/\k<=2)/\m1 k≠m2 k)->(∀k,m1 k≠m2 k->k∈ks)->Bs c Y' ra rd tk sv (fE tk sv nt) (L++pc tk sv nt++ks.map λk=>.prop (b+1) (e+1) k (m1 k)) M->bD ra Y Y'->Q .none Y'):(Wn (n+5)).call 44 [.ref c.bf,.int b,.int e,.ref p,.ref q] Q X Y:=by
 exact en (fd:=Jx) rfl ?_;exact aA h.bf ?_;exact O8 hp d7 λc0 Y1 ks ki f1 hl y8 sC gj=>?_;obtain⟨xs,hx,hu⟩:=h.rows;have y9:c0≠ra:=λe=>by nomatch e,hx,ki
 exists hl
 have h1:=h.aB f1;exact lT (LT c b e p q ra c0 Y rd tk sv nt L M m1 ks) ?_ ?_ ?_ _ _ _ ⟨[],ks,rfl,rfl,⟨[],rfl,.none _⟩,by simpa using h1,f1.bI,hl⟩
 ·rintro _ _ s ⟨_,_,_,_,_,_,_,h⟩;show h
 ·rintro v rest env s ⟨k1,k2,ek,er,ao,hb,fs,bQ⟩ K hK;cases k2 with
  |nil=>cases er
  |cons k k2=>
   injection er with ev er;subst ev;have Cj:GP s p m1:=hp.bI fs hpr hx;obtain⟨lp,G9,ho,cL⟩:=Cj;have mv:k1.length<=6:=by have:=congrArg List.length ek;simp at this;show⟨"A.6,B.6,B~A+(C+1);1,1,-1",y8,this⟩
   have tV:=G8 (tk:=tk) (sv:=sv) (nt:=nt);have step:∀(Y2:So) (v:V),Fr [] s Y2->(match m1 k with | none=>v=.none | some j=>∃b,v=.ref b/\Y2 b=some (.tup [.int j]))->(∀s',Bs c s' ra rd tk sv (fE tk sv nt) (L++pc tk sv nt++(k1++[k]).map λk=>.prop (b+1) (e+1) k (m1 k)) M->bD ra Y s'->s' c0=some (.lst (ks.map V.int))->∀env,(env=[(3,.ref c.bf),(86,.int b),(62,.int e),(66,.ref p),(105,.ref q),(39,.int k)])->K env s')->(Wn (n+4)).call 81 [.ref c.un,.ref c.bf,.int (b+1),.int (e+1),.int k,v] (λ_ s=>K [(3,.ref c.bf),(86,.int b),(62,.int e),(66,.ref p),(105,.ref q),(39,.int k)] s) aN Y2:=by
    intro Y2 v f2 hv dC;exact Pw (hb.aB f2) (by simp;split<;>first | show⟨"A+(B+C)>80000,A>70000,C.6,B.1",hL,mv,tV⟩ | (simp;show⟨"A+B>80000,A>70000,B.6",hL,mv⟩)) ⟨"a+1<b+1,a<b",ya⟩ hv λs' aK fs'=>?_
    exact dC s' ?_ ((fs.trans f2.bI).trans fs') (fs' _ _ (f2.k bQ) (λ_ _ e=>by cases e) y9) _ rfl;by_cases g:k1=[]
    ·clear ek hb dC mv;subst g
     simpa using aK
    ·rw[if_neg g,if_neg g] at aK;rw[Px,Py] at aK
     simpa using aK
   have dC:∀s',Bs c s' ra rd tk sv (fE tk sv nt) (L++pc tk sv nt++(k1++[k]).map λk=>.prop (b+1) (e+1) k (m1 k)) M->bD ra Y s'->s' c0=some (.lst (ks.map V.int))->∀env,(env=[(3,.ref c.bf),(86,.int b),(62,.int e),(66,.ref p),(105,.ref q),(39,.int k)])->K env s':=λs' g1 g2 g3 env g4=>hK _ _ ⟨k1++[k],k2,by rw[ek];simp,er,⟨[(39,.int k)],g4,⟨[_],rfl⟩⟩,by simpa using g1,g2,g3⟩;obtain⟨ex,rfl,za⟩:=ao;show wSs (Wn (n+4)) _ ((3,V.ref c.bf)::(86,.int b)::(62,.int e)::(66,.ref p)::(105,.ref q)::Tactic.up ex 39 (.int k)) K Q aN s;rw[za.up1];exact aA hb.bf ?_
   exists hb.un
   exact get_ G9 ho (λv cc hv fL=>?_) (λhn=>?_)
   ·show step _ _ (.new fL) (by rw[<-cL k,hv];show⟨cc,rfl,ah⟩) dC
   ·show step _ _ .refl (by rw[<-cL k,hn]) dC
 ·rintro env s ⟨k1,k2,ek,er,ao,hb,fs,bQ⟩;cases k2 with
  |cons _ _=>cases er
  |nil=>
   rw[de] at ek;subst ek;have mw:ks≠[]:=λe=>by
    exact au (funext λk=>?_);cases Classical.em (m1 k=m2 k) with
    |inl h=>show h
    |inr h=>have:=gj k h;nomatch e,this
   rw[if_neg mw,if_neg mw] at hb;have:=hq s ks y8 sC gj hb fs;obtain⟨ex,rfl,_⟩:=ao;show this
def Dr:Row->Da
 | .aW=>.tup [.str 16]
 | .dP t=>.tup [.str 71,.int t]
 | .prop s e k none=>.tup [.str 70,.int s,.int e,.int k,.none]
 | .prop s e k (some v)=>.tup [.str 70,.int s,.int e,.int k,.tup [.int v]]
def aba.rd{Y a r}(h:aba Y a r):Rd Y (.ref a) (Dr r):=by
 cases r with
 |aW=>show .tup h.2 (.cons (.str _) .nil)
 |dP t=>show .tup h (.cons (.str _) (.cons (.int _) .nil))
 |prop s e k v=>
  cases v with
  |none=>show .tup h (.cons (.str _) (.cons (.int _) (.cons (.int _) (.cons (.int _) (.cons .none .nil)))))
  |some v=>
   obtain⟨b,h1,h2⟩:=h;show .tup h1 (.cons (.str _) (.cons (.int _) (.cons (.int _) (.cons (.int _) (.cons (.tup h2 (.cons (.int _) .nil)) .nil)))))
def pE:Row->Bool
 | .aW=>true
 |_=>false
def ant(r:Row):Da.eq (Dr r) (Dr .aW)=pE r:=by
 cases r with
 |aW=>rfl
 |dP t=>rfl
 |prop s e k v=>cases v<;>rfl
def Ct(r:Row):Da.deep (Dr r)<20:=by
 cases r with
 |aW=>decide
 |dP t=>simp[Dr,Da.deep,Da.iL]
 |prop s e k v=>cases v<;>simp[Dr,Da.deep,Da.iL]
theorem zb{Y a r}{K:Bool->Prop}(h:aba Y a r)(hb:Y 884=some (.tup [.str 16]))(hk:K (pE r)):eqs (.ref a) (.ref 884) K Y:=
 .inl ⟨Dr r,Dr .aW,h.rd,aba.rd (r:=.aW) ⟨rfl,hb⟩,Ct _,Ct _,by rw[ant];show hk⟩
def UR.at_{Y vs L}(h:UR Y vs L):∀{i:Nat}{r},L[i]?=some r->∃a,vs[i]?=some (.ref a)/\aba Y a r:=by
 induction h with
 |nil=>intro i r e;simp at e
 |cons h _ ih=>
  intro i r e;cases i with
  |zero=>simp at e;subst e;show⟨_,rfl,h⟩
  |succ i=>show ih (by simpa using e)
def UR.last{Y vs L r}(h:UR Y vs (L++[r])):∃cy a,vs=cy++[.ref a]/\UR Y cy L/\aba Y a r:=by
 generalize hL:L++[r]=L' at h;induction h generalizing L with
 |nil=>simp at hL
 |cons h1 h2 ih=>
  cases L with
  |nil=>
   injection hL with e1 e2;subst e1;rw[<-e2] at h2;clear ih;cases h2;show⟨[],_,rfl,.nil,h1⟩
  |cons x L=>
   injection hL with e1 e2;subst e1;obtain⟨cy,a,rfl,g1,g2⟩:=ih e2;show⟨_::cy,a,rfl,.cons h1 g1,g2⟩
def km(L:List Row):Bool:=match L.getLast? with
 |none=>true
 |some r=>pE r
def aoR{n Q X c Y ra rd tk sv nt L M}(h:Bs c Y ra rd tk sv nt L M)(hq:Q (.bool (km L)) Y):(Wn (n+1)).call 90 [.ref c.ul] Q X Y:=by
 obtain⟨xs,hx,hu⟩:=h.rows;exact en (fd:=Kc) rfl ?_;exact aA h.ul ?_
 exists hx
 rcases List.eq_nil_or_concat L with e | ⟨L',r,e⟩
 ·subst e;cases hu;show hq
 ·have e':L=L'++[r]:=by rw[e];simp
  subst e';obtain⟨cy,a,rfl,g1,g2⟩:=hu.last;have hb:km (L'++[r])=pE r:=by unfold km;simp
  rw[hb] at hq;have hlen:((cy++[V.ref a]).length:Int)≠0:=by simp;show λe=>⟨"_,'A+1=0",e⟩
  conv=>whnf
  split<;>rename_i g
  ·simp at g;show False.elim ⟨"_,'A+1=0",g⟩
  ·exact aA h.ul ?_;exact eU hx (x:=.ref a) ?_ ?_
   ·unfold ix;rw[if_neg (by decide),if_pos (by simp;show⟨"0:0-1+('A+1)"⟩)];have:((-1:Int)+((cy++[V.ref a]).length:Int)).toNat=cy.length:=by simp;show congrArg Int.toNat (⟨"0-1+('A+1)='A"⟩:-1+((cy.length:Int)+1)=cy.length)
    rw[this];simp
   ·show zb (K:=λt=>Q (.bool t) Y) g2 h.aW hq
def boundary{n Q X c Y ra rd tk sv nt L M}(h:Bs c Y ra rd tk sv nt L M)(hL:L.length<90000)(hq:∀Y',Bs c Y' ra rd tk sv nt (if km L then L else L++[.aW]) M->bD ra Y Y'->Q .none Y'):(Wn (n+2)).call 77 [.ref c.ul] Q X Y:=by
 obtain⟨xs,hx,hu⟩:=h.rows;have hlen:=hu.len;exact en (fd:=J2) rfl ?_
 exists h.ul
 exact aoR h ?_;cases hb:km L with
 |true=>
  rw[hb] at hq;show hq Y h .refl
 |false=>
  rw[hb] at hq;exact aA h.ul ?_
  exists hx
  exists hx
  exact⟨by unfold big;show⟨"A>100000,B>90000,A~B",hL,hlen⟩,?_⟩;show hq _ (h.Cq hx (r:=.aW) ⟨rfl,h.aW⟩) .self
def ajT{n Q X c Y ra rd tk sv nt L M}(h:Bs c Y ra rd tk sv nt L M)(hq:∀Y',Bs c Y' ra rd tk tk nt L M->bD ra Y Y'->Q .none Y'):(Wn (n+1)).call 85 [.ref c.bf,.bool false] Q X Y:=by
 exact en (fd:=Dl) rfl ?_;exact aA h.bf ?_;exact sat h.bf ?_;show hq _ h.Cp (.inst h.bf)
end Tactic
namespace Tactic
open Classical in
def fl(F:Mp->Mp)(R:List (Int×Int×Mp)):List (Int×Int×Mp):=R.filter λr=>decide (F r.2.2≠r.2.2)
def turned(F:Mp->Mp)(R:List (Int×Int×Mp)):List (Int×Int×Mp):=R.map λr=>(r.1,r.2.1,F r.2.2)
def mapM(M:Nat->Mp)(b e:Int)(F:Mp->Mp):Nat->Mp:=λi=>if b<=(i:Int)/\(i:Int)<e then F (M i) else M i
def zc{F:Mp->Mp}{r R}(h:F r.2.2≠r.2.2):fl F (r::R)=r::fl F R:=by
 unfold fl;rw[List.filter_cons_of_pos];simpa using h
def zf{F:Mp->Mp}{r R}(h:F r.2.2=r.2.2):fl F (r::R)=fl F R:=by
 unfold fl;rw[List.filter_cons_of_neg];simpa using h
def Cu{F:Mp->Mp}{A B}:fl F (A++B)=fl F A++fl F B:=by unfold fl;rw[List.filter_append]
def vO{F:Mp->Mp}{R r}:r∈fl F R↔r∈R/\F r.2.2≠r.2.2:=by unfold fl;rw[List.mem_filter];simp
def zg{F:Mp->Mp}{R}:(fl F R).length<=R.length:=by unfold fl;show List.length_filter_le _ _
def Ha{M0 b e R}(F:Mp->Mp)(h:gK M0 b e R):∀M1:Nat->Mp,(∀i:Nat,b<=(i:Int)->(i:Int)<e->M1 i=M0 i)->vM M1 (turned F (fl F R))=mapM M1 b e F:=by
 induction h with
 |nil=>
  intro M1 _
  funext i
  show M1 i=mapM M1 _ _ F i;unfold mapM;rw[if_neg (λqq=>⟨"_,a:'A,'A<a;0,1,1",qq.1,qq.2⟩)]
 |@cons b c e m R g1 g2 g3 ih=>
  intro M1 hM;have hle:=g3.le;by_cases hF:F m=m
  ·rw[zf (r:=(b,c,m)) hF,ih M1 λi i1 i2=>hM i ⟨"a:'A,a<b,b:'A",g1,i1⟩ i2]
   funext i
   unfold mapM;by_cases q:c<=(i:Int)/\(i:Int)<e
   ·rw[if_pos q,if_pos ⟨⟨"a:'A,a<b,b:'A",g1,q.1⟩,⟨"'A<a,'A<a",q.2⟩⟩]
   ·rw[if_neg q];by_cases q2:b<=(i:Int)/\(i:Int)<e
    ·rw[if_pos q2,hM i q2.1 q2.2,g2 i q2.1 (Int.not_le.mp λx=>q ⟨x,q2.2⟩),hF]
    ·rw[if_neg q2]
  ·rw[zc (r:=(b,c,m)) hF];show vM (setM M1 b c (F m)) (turned F (fl F R))=_;rw[ih _ λi i1 i2=>by unfold setM;rw[if_neg (λqq=>⟨"_,a:'A,'A<a;0,1,1",i1,qq.2⟩)];show hM i ⟨"a:'A,a<b,b:'A",g1,i1⟩ i2]
   funext i
   unfold mapM setM;by_cases q:c<=(i:Int)/\(i:Int)<e
   ·rw[if_pos q,if_neg (λqq=>⟨"_,a:'A,'A<a;0,1,1",q.1,qq.2⟩),if_pos ⟨⟨"a:'A,a<b,b:'A",g1,q.1⟩,⟨"'A<a,'A<a",q.2⟩⟩]
   ·rw[if_neg q];by_cases q2:b<=(i:Int)/\(i:Int)<c
    ·rw[if_pos q2,if_pos ⟨⟨"a:'A,a:'A",q2.1⟩,⟨"'A<a,b:a,'A<b",hle,q2.2⟩⟩,hM i q2.1 ⟨"'A<a,b:a,'A<b",hle,q2.2⟩,g2 i q2.1 q2.2]
    ·rw[if_neg q2,if_neg λz=>q ⟨Int.not_lt.mp λx=>q2 ⟨z.1,x⟩,z.2⟩]
def Pz{M b e R}{F:Mp->Mp}(h:gK M b e R)(hn:fl F R=[]):mapM M b e F=M:=by
 have:=Ha F h M λ_ _ _=>rfl;rw[hn] at this;show this.symm
class inductive R4(ra cr:Nat)(Y s:So)(F:Mp->Mp):List V->List (Int×Int×Mp)->Prop
 |nil:R4 ra cr Y s F [] []
 |cons {a b e p q m vs R}:s a=some (.tup [.int b,.int e,.ref p,.ref q])->bP ra Y p m->q≠ra->q≠cr->GP s q (F m)->R4 ra cr Y s F vs R->R4 ra cr Y s F (.ref a::vs) ((b,e,m)::R)
@[elab_as_elim] def R4.c{ra cr Y s F v vs l}{P:V->List (Int×Int×Mp)->Prop}(h:R4 ra cr Y s F (v::vs) l)(k:∀a b e p q m R,s a=some (.tup [.int b,.int e,.ref p,.ref q])->bP ra Y p m->q≠ra->q≠cr->GP s q (F m)->R4 ra cr Y s F vs R->P (.ref a) ((b,e,m)::R)):P v l:=by
 cases h with | cons a b c d e f=>show k _ _ _ _ _ _ _ a b c d e f
def R4.app{ra cr Y s F vs R cy R'}(h:R4 ra cr Y s F vs R)(h':R4 ra cr Y s F cy R'):R4 ra cr Y s F (vs++cy) (R++R'):=by
 induction h with
 |nil=>show h'
 |cons h1 h2 h3 h4 h5 _ ih=>show .cons h1 h2 h3 h4 h5 ih
def R4.len{ra cr Y s F vs R}(h:R4 ra cr Y s F vs R):vs.length=R.length:=by
 induction h with
 |nil=>rfl
 |cons _ _ _ _ _ _ ih=>simp[ih]
def R4.fr{ra cr Y s s' F vs R}(h:R4 ra cr Y s F vs R)(f:∀b o,s b=some o->(∀c fs,o≠.inst c fs)->b≠ra->b≠cr->s' b=some o)(ht:∀a xs,s a=some (.tup xs)->s' a=some (.tup xs)):R4 ra cr Y s' F vs R:=by
 induction h with
 |nil=>show .nil
 |cons h1 h2 h3 h4 h5 _ ih=>
  obtain⟨l,⟨vs,g1,g2⟩,g3,g4⟩:=h5;show .cons (ht _ _ h1) h2 h3 h4 ⟨l,⟨vs,f _ _ g1 (λ_ _ e=>by cases e) h3 h4,g2.fr ht⟩,g3,g4⟩ ih
structure mC(N:Int)(M M':Nat->Mp)(G:List Row):Prop where
 ok:∀r∈G,∃s e k v,r=.prop s e k v/\1<=s/\s<e/\e<=N+1/\0<=k/\k<=2/\∀i:Nat,s-1<=(i:Int)->(i:Int)<e-1->M i k=v
 all:∀(i:Nat) k,M' i k≠M i k->∃s e v,Row.prop s e k v∈G/\s-1<=(i:Int)/\(i:Int)<e-1
def RL.aB{ra Y Y' vs R}(h:RL ra Y vs R)(f:Fr [] Y Y'):RL ra Y' vs R:=by
 induction h with
 |nil=>show .nil
 |cons h1 h2 _ ih=>show .cons (f _ _ h1 (by simp)) (h2.aB f) ih
def gK.find{M b e R}(h:gK M b e R):∀i:Nat,b<=(i:Int)->(i:Int)<e->∃r∈R,r.1<=(i:Int)/\(i:Int)<r.2.1:=by
 induction h with
 |nil=>intro i h1 h2;show absurd h2 (Int.not_lt.mpr h1)
 |@cons b c e m R g1 g2 g3 ih=>
  intro i h1 h2;by_cases q:(i:Int)<c
  ·show⟨_,.head _,h1,q⟩
  ·obtain⟨r,hr,hh⟩:=ih i ⟨"a:'A,!'A<a",q⟩ h2;show⟨r,.tail _ hr,hh⟩
abbrev qQ(c:Cf)(s_ e:Int)(ai:List Nat)(bd:E)(aq:Env)(lo hi:Int)(cr:Nat)(ex:Env):Env:=(3,.ref c.bf)::(61,.int s_)::(62,.int e)::(89,.bA ai bd aq)::(84,.int lo)::(85,.int hi)::(17,.ref cr)::ex
def Te(c:Cf)(s_ e:Int)(ai:List Nat)(bd:E)(aq:Env)(lo hi:Int)(cr:Nat)(env:Env):Prop:=∃ex,env=qQ c s_ e ai bd aq lo hi cr ex/\Suf [86,87,63,88] ex
theorem PA{c s_ e ai bd aq lo hi cr ex x y z u}(h:Suf [86,87,63,88] ex):Tactic.up (Tactic.up (Tactic.up (Tactic.up (qQ c s_ e ai bd aq lo hi cr ex) 86 x) 87 y) 63 z) 88 u=qQ c s_ e ai bd aq lo hi cr [(86,x),(87,y),(63,z),(88,u)]:=
 congrArg (qQ c s_ e ai bd aq lo hi cr) h.four
inductive LA(ra cr:Nat)(Y Y2:So)(F:Mp->Mp)(R:List (Int×Int×Mp))(T:Env->Prop)(rest:List V)(env:Env)(s0:So):Prop
 |mk (Ra Rb bK):R=Ra++Rb->fC ra Y Y2 rest Rb->T env->Fr [cr] Y2 s0->s0 cr=some (.lst bK)->R4 ra cr Y s0 F bK (fl F Ra)->LA ra cr Y Y2 F R T rest env s0
inductive LG(ra cr:Nat)(Y s5:So)(F:Mp->Mp)(R:List (Int×Int×Mp))(tf:List (Int×Int×Mp)->List (Int×Int×Mp))(rest acc:List V)(s:So):Prop
 |mk (Ra Rb):R=Ra++Rb->R4 ra cr Y s F rest Rb->RL ra s acc (tf Ra)->Fr [] s5 s->LG ra cr Y s5 F R tf rest acc s
inductive LB(c:Cf)(Y s1:So)(ra cr:Nat)(rd:Bool)(tk sv:Int)(nt:Option Int)(L:List Row)(M:Nat->Mp)(F:Mp->Mp)(R:List (Int×Int×Mp))(T:Env->Prop)(rest:List V)(env:Env)(s:So):Prop
 |mk (Ra Rb G):R=Ra++Rb->R4 ra cr Y s F rest Rb->T env->Bs c s ra rd tk sv (if Ra=[] then nt else fE tk sv nt) (L++(if Ra=[] then [] else pc tk sv nt)++G) M->bD ra s1 s->G.length<=6 * Ra.length->(∀r∈G,∃b e m k,(b,e,m)∈R/\r=.prop (b+1) (e+1) k (m k)/\0<=k/\k<=2)->(∀b e m,(b,e,m)∈Ra->∀k,m k≠F m k->.prop (b+1) (e+1) k (m k)∈G)->LB c Y s1 ra cr rd tk sv nt L M F R T rest env s
def aji{n Q X c Y ra rd tk sv nt L M}{F:Mp->Mp}{ai:List Nat}{bd:E}{aq:Env}{s_ e:Int}(h:Bs c Y ra rd tk sv nt L M)(hL:L.length<50000)(bF:0<=c.N)(hN:c.N<=8)
  (eJ:∀s p m Q',Fr [] Y s->GP s p m->(∀q s',s q=none->Fr [] s s'->GP s' q (F m)->Q' (.ref q) s')->(Wn (n+9)).iY ai bd aq [.ref p] Q' s)
  (bT:(bY s_ e<1\/c.N+1<cA s_ e)->∀Y',Fr [] Y Y'->X 34 Y')
  (sG:1<=bY s_ e->cA s_ e<=c.N+1->mapM M (bY s_ e-1) (cA s_ e-1) F≠M->rd=true->∀Y',Fr [] Y Y'->X 35 Y')
  (cZ:1<=bY s_ e->cA s_ e<=c.N+1->mapM M (bY s_ e-1) (cA s_ e-1) F=M->∀Y',Fr [] Y Y'->Q (.bool false) Y')
  (gV:1<=bY s_ e->cA s_ e<=c.N+1->mapM M (bY s_ e-1) (cA s_ e-1) F≠M->rd=false->∀Y' G,Bs c Y' ra rd (tk+1) sv (fE tk sv nt) (L++pc tk sv nt++G) (mapM M (bY s_ e-1) (cA s_ e-1) F)->mC c.N M (mapM M (bY s_ e-1) (cA s_ e-1) F) G->G≠[]->G.length<=60->bD ra Y Y'->Q (.bool true) Y')
  : (Wn (n+10)).call 26 [.ref c.bf,.int s_,.int e,.bA ai bd aq] Q X Y:=by
 have zh:bY s_ e<=cA s_ e:=Pp;exact en (fd:=nj) rfl ?_;exact Pq h bT λb1 b2 a Y1 f1 ha=>?_;have Hb:=sG b1 b2;have Hc:=cZ b1 b2;have Hd:=gV b1 b2;clear bT sG cZ gV;generalize bY s_ e=lo at *;generalize cA s_ e=hi at *
 exists ha
 exact⟨rfl,?_⟩;intro cr zi;have zj:Y cr=none:=by
  cases hs:Y cr with
  |none=>rfl
  |some o=>nomatch f1 _ _ hs (by simp),zi
 obtain⟨xs,fM,hu⟩:=h.rows;have kr:cr≠ra:=λe=>by nomatch e,fM,zj
 have f2:Fr [] Y (put Y1 cr (.lst [])):=f1.trans (.new zi);have h2:=h.aB f2;exact aA h2.bf ?_;exact Pn (Yp:=Y) h.tree f2 ⟨"a:800,a:8",hN⟩ ⟨"0:a-1,1:a",b1⟩ ⟨"a-1:b-1,a:b",zh⟩ ⟨"a-1:b,a:b+1",b2⟩ h2.tp λc1 Y2 vs R eo f3 dG hR hC=>?_;have rF:=f2.trans f3;have t5:c1≠cr:=λe=>by nomatch e,ah,eo
 have mD:Y2 cr=some (.lst []):=f3 _ _ ah (by simp);have mE:=hC.len;have old:∀s,Fr [cr] Y2 s->Fr [] Y s:=λs fs b o hb _=>fs b o (rF b o hb (by simp)) λhm=>by
  simp at hm
  nomatch hm,zj,hb
 have jH:∀(env:Env) (s0:So) (bK:List V),Te c s_ e ai bd aq lo hi cr env->Fr [cr] Y2 s0->s0 cr=some (.lst bK)->R4 ra cr Y s0 F bK (fl F R)->wSs (Wn (n+9)) (nj.body.drop 3) env (qN Q) Q X s0:=by
  intro env s0 bK ao fs bQ h4;have f0:=old s0 fs;have h0:=h.aB f0;have mF:=h4.len;have jj:=zg (F:=F) (R:=R);have hR8:(fl F R).length<=8:=⟨"A.8,a:8,1:b,c:a+1,'B:c-1-(b-1),A.B",hN,b1,b2,mE,jj⟩;have jk:∀r∈fl F R,lo-1<=r.1/\r.1<r.2.1/\r.2.1<=hi-1/\∀i:Nat,r.1<=(i:Int)->(i:Int)<r.2.1->M i=r.2.2:=λr hr=>hC.mem r (vO.mp hr).1;have mG:=Ha F hC M λ_ _ _=>rfl;have jI:fl F R≠[]->mapM M (lo-1) (hi-1) F≠M:=λau em=>by
   obtain⟨r,rs,hr⟩:=List.exists_cons_of_ne_nil au;have hm:=vO.mp (show r∈fl F R by rw[hr];show .head _);have hh:=jk r (by rw[hr];show .head _);have eV:=congrFun em r.1.toNat;unfold mapM at eV;rw[if_pos ⟨⟨"a-1:'A,a-1:b,'A=b;1,1,-1",hh.1,bw ⟨"0:a,1:b,b-1:a",b1,hh.1⟩⟩,⟨"'A<a-1,b<c,c:a-1,'A=b",hh.2.1,hh.2.2.1,bw ⟨"0:a,1:b,b-1:a",b1,hh.1⟩⟩⟩,hh.2.2.2 r.1.toNat ⟨"a:'A,'A=a;1,-1",bw ⟨"0:a,1:b,b-1:a",b1,hh.1⟩⟩ ⟨"'A<a,b<a,'A=b",hh.2.1,bw ⟨"0:a,1:b,b-1:a",b1,hh.1⟩⟩] at eV;show hm.2 eV
  have mH:∀(env:Env) (s5:So) (G:List Row),Te c s_ e ai bd aq lo hi cr env->rd=false->fl F R≠[]->Bs c s5 ra rd tk sv (fE tk sv nt) (L++pc tk sv nt++G) M->bD ra Y s5->s5 cr=some (.lst bK)->R4 ra cr Y s5 F bK (fl F R)->G.length<=6 * (fl F R).length->(∀r∈G,∃b e m k,(b,e,m)∈fl F R/\r=.prop (b+1) (e+1) k (m k)/\0<=k/\k<=2)->(∀b e m,(b,e,m)∈fl F R->∀k,m k≠F m k->Row.prop (b+1) (e+1) k (m k)∈G)->wSs (Wn (n+9)) (nj.body.drop 7) env (qN Q) Q X s5:=by
   intro env s5 G ao qR au hb Cv pF Cw nW vP qT;have He:∀r∈turned F (fl F R),0<=r.1/\r.1<r.2.1/\r.2.1<=c.N:=λr hr=>by
    obtain⟨r0,sR,rfl⟩:=bJ.mp hr;have:=jk r0 sR;show⟨by show 0<=r0.1;show⟨"0:a,1:b,b-1:a",b1,this.1⟩,this.2.1,by show r0.2.1<=c.N;show⟨"a:b,c:b+1,a:c-1",b2,this.2.2.1⟩⟩
   have ku:∀(s6:So) (c7:Nat) (acc:List V),Fr [] s5 s6->s6 c7=some (.lst acc)->RL ra s6 acc (turned F (fl F R))->(Wn (n+9)).call 45 [.ref c.tp,.ref c7] (λ_ s=>wSs (Wn (n+9)) (nj.body.drop 8) env (qN Q) Q X s) X s6:=by
    intro s6 c7 acc f6 fF Hf;have iR:=hb.aB f6;obtain⟨zs,mI,_⟩:=iR.rows;exact Pl (n:=n) iR.tree ⟨"a:800,a:8",hN⟩ iR.tp ⟨zs,mI⟩ fF Hf He λbv s7 zk f7=>?_;rw[mG] at zk;have nY:=iR.gu f7 zk;obtain⟨rv,iB⟩:=iR.tree.ex.choose_spec.1.rt;have kQ:=(f6.bI (ra:=ra)).trans (f7.bI iB);have grp:mC c.N M (mapM M (lo-1) (hi-1) F) G:=by
     constructor
     ·intro r hr;obtain⟨b,e',m,k,g1,g2,g3,g4⟩:=vP r hr;obtain⟨w1,w2,w3,w4⟩:=jk _ g1;exact⟨b+1,e'+1,k,m k,g2,?_,?_,?_,g3,g4,λi i1 i2=>?_⟩
      ·have:lo-1<=b:=w1;show⟨"1:a+1,1:b,b-1:a",b1,w1⟩
      ·have:b<e':=w2;show⟨"a+1<b+1,a<b",w2⟩
      ·have:e'<=hi-1:=w3;show⟨"a+1:b+1,c:b+1,a:c-1",b2,w3⟩
      ·rw[w4 i (by show b<=(i:Int);show⟨"a:'A,a+1-1:'A",i1⟩) (by show(i:Int)<e';show⟨"'A<a,'A<a+1-1",i2⟩)]
     ·intro i k hk;unfold mapM at hk;by_cases q:lo-1<=(i:Int)/\(i:Int)<hi-1
      ·rw[if_pos q] at hk;obtain⟨r,hr,r1,r2⟩:=hC.find i q.1 q.2;have hm:=(hC.mem r hr).2.2.2 i r1 r2;rw[hm] at hk;have hF:F r.2.2≠r.2.2:=λe=>hk (by rw[e]);exact⟨r.1+1,r.2.1+1,r.2.2 k,qT r.1 r.2.1 r.2.2 (vO.mpr ⟨hr,hF⟩) k (aaa hk),⟨"a+1-1:'A,a:'A",r1⟩,⟨"'A<a+1-1,'A<a",r2⟩⟩
      ·rw[if_neg q] at hk;show absurd rfl hk
    have Gne:G≠[]:=λe=>by
     obtain⟨r,rs,hr⟩:=List.exists_cons_of_ne_nil au;have j8:r∈fl F R:=by rw[hr];show .head _
     have hF:=(vO.mp j8).2;exact hF (funext λk=>?_);cases Classical.em (r.2.2 k=F r.2.2 k) with
     |inl h=>show h.symm
     |inr h=>
      have:=qT r.1 r.2.1 r.2.2 j8 k h
      nomatch e,this
    have fin:∀env,Te c s_ e ai bd aq lo hi cr env->wSs (Wn (n+9)) (nj.body.drop 8) env (qN Q) Q X s7:=by
     rintro env ⟨ex,rfl,hx⟩
     exists nY.bf
     exact Pu nY λs8 t7 f8=>?_;exact aA t7.bf ?_
     exists t7.ls.1
     exact⟨by decide,λc9 PB=>?_⟩
     exists ah
     exact⟨ah,?_⟩;show Hd (jI au) qR _ G (t7.aB (.new PB)) grp Gne ⟨"A.60,a:8,1:b,c:a+1,'B:c-1-(b-1),C.B,A.6*C;1,6,6,6,6,6,1",hN,b1,b2,mE,jj,nW⟩ (((Cv.trans kQ).trans f8).trans (Fr.tQ PB).bI)
    show fin env ao
   have ga:wE (Wn (n+9)) (.comp (.tup [(.v 86),(.v 87),(.v 88)]) [86,87,63,88] (.v 17) []) env (λv s=>wEs (Wn (n+9)) [] env (λvs s=>(Wn (n+9)).call 45 (.ref c.tp::v::vs) (λ_ s=>wSs (Wn (n+9)) (nj.body.drop 8) env (qN Q) Q X s) X s) X s) X s5:=by
    have qU:lk env 17=some (.ref cr):=by clear ku;obtain⟨ex,rfl,_⟩:=ao;rfl
    show(match lk env 17 with | some (.bA _ _ _)=>False | some v=>m7 _ v s5 | Option.none=>False)
    exact uG qU (m9 pF ?_);exact qx (LG ra cr Y s5 F (fl F R) (turned F)) ?_ ?_ ?_ _ _ _ ⟨[],fl F R,rfl,Cw,.nil,.refl⟩
    ·rintro _ _ s ⟨_,_,_,_,_,fs⟩;show fs _ _ pF (by simp)
    ·rintro v rest acc s ⟨Ra,Rb,eR,hr,hl,fs⟩ K-hK;revert eR;exact hr.c λa b e' p q m Rb g1 g2 g3 g4 g5 g6 eR=>?_;exact B9 g1 ?_;have fin:∀c6,s c6=none->K (some (.ref c6)) (put s c6 (.tup [.int b,.int e',.ref q])):=λc6 ji=>by
      have f6:Fr [] s (put s c6 (.tup [.int b,.int e',.ref q])):=.new ji;exact hK _ _ ⟨Ra++[(b,e',m)],Rb,by rw[eR];simp,g6.fr (λb o hb _ _ _=>f6 b o hb (by simp)) (λa xs ha=>f6 a _ ha (by simp)),?_,fs.trans f6⟩;have e1:turned F (Ra++[(b,e',m)])=turned F Ra++[(b,e',F m)]:=by unfold turned;simp
      rw[e1];show(hl.aB f6).app (.cons ah ⟨g3,g5.aB f6⟩ .nil)
     clear qU ku;obtain⟨ex,rfl,hx⟩:=ao;rw[PA hx];show fin
    ·rintro acc s ⟨Ra,Rb,eR,hr,hl,fs⟩;cases hr;rw[de] at eR;rw[<-eR] at hl;have pG:=hl.len;have:(turned F (fl F R)).length=(fl F R).length:=by unfold turned;simp
     exact⟨by unfold big;show⟨"A>100000,a:8,1:b,c:a+1,'B:c-1-(b-1),C.B,A~D,D~C",hN,b1,b2,mE,jj,pG,this⟩,λc7 fF=>?_⟩;show ku _ c7 acc (fs.trans (.new fF)) ah (hl.aB (.new fF))
   clear ku;obtain⟨ex,rfl,hx⟩:=ao;exact aA hb.bf ?_;show ga
  have t8:rd=false->fl F R≠[]->wSs (Wn (n+9)) (nj.body.drop 5) env (qN Q) Q X s0:=by
   intro qR au;have go:∀s1:So,Fr [] s0 s1->wSs (Wn (n+9)) (nj.body.drop 6) env (qN Q) Q X s1:=by
    intro s1 f5;have h1:=h0.aB f5;have PC:=h4.fr (s':=s1) (λb o hb _ _ _=>f5 b o hb (by simp)) λa xs ha=>f5 a _ ha (by simp);have gh:=f5 _ _ bQ (by simp);have lp:m8 (Wn (n+9)) (.v 17) env (wE (Wn (n+9)) (.v 17) env) (λvs Gg s=>loop (λv m K s=>fJ [86,87,63,88] v m (λm'=>wSs (Wn (n+9)) [.ex (.call 44 [(.v 3),(.v 86),(.v 87),(.v 63),(.v 88)])] m' K Q aN s) s) Gg (λm s=>wSs (Wn (n+9)) (nj.body.drop 7) m (qN Q) Q X s) vs env s) X s1:=by
     have qU:lk env 17=some (.ref cr):=by obtain⟨ex,rfl,_⟩:=ao;rfl
     show(match lk env 17 with | some (.bA _ _ _)=>False | some v=>m7 _ v s1 | Option.none=>False)
     exact uG qU (m9 gh ?_);exact lT (LB c Y s1 ra cr rd tk sv nt L M F (fl F R) (Te c s_ e ai bd aq lo hi cr)) ?_ ?_ ?_ _ _ _ ⟨[],fl F R,[],rfl,PC,ao,by simpa using h1,.refl,by simp,by simp,by simp⟩
     ·rintro _ _ s ⟨_,_,_,_,_,_,_,fs,_⟩;show fs _ _ gh (λ_ _ e=>by cases e) kr
     ·rintro v rest env s5 ⟨Ra,Rb,G,eR,hr,ao,hb,fs,nW,vP,qT⟩ K hK;obtain⟨ys,zp,_⟩:=h1.rows;revert eR;exact hr.c λa b e' p q m Rb g1 g2 g3 g4 g5 g6 eR=>?_;exact B9 g1 ?_;have j8:(b,e',m)∈fl F R:=by rw[eR];simp
      have hm:=jk _ j8;have hF:=(vO.mp j8).2;have gp:GP s5 p m:=(g2.2.aB (f0.trans f5)).bI fs g2.1 zp;have mJ:Ra.length<=8:=by have:=congrArg List.length eR;simp at this;show⟨"A.8,a:8,1:b,c:a+1,'B:c-1-(b-1),C.B,C~A+(D+1);1,1,1,1,1,1,-1",hN,b1,b2,mE,jj,this⟩
      have tV:=G8 (tk:=tk) (sv:=sv) (nt:=nt);have t9:∀jl,(jl=[(3,.ref c.bf),(61,.int s_),(62,.int e),(89,.bA ai bd aq),(84,.int lo),(85,.int hi),(17,.ref cr),(86,.int b),(87,.int e'),(63,.ref p),(88,.ref q)])->(Wn (n+9)).call 44 [.ref c.bf,.int b,.int e',.ref p,.ref q] (λ_ s=>K jl s) aN s5:=by
       rintro jl rfl;exact aiR hb (by simp;split<;>first | show⟨"A+(B+C)>70000,A>50000,C.6*D,D.8,B.1;1,1,1,6,1",hL,nW,mJ,tV⟩ | (simp;show⟨"A+B>70000,A>50000,B.6*C,C.8;1,1,1,6",hL,nW,mJ⟩)) hm.2.1 gp g2.1 g5 (λe=>hF e.symm) λs6 ks k6 k1 k2 iR f6=>?_
       exact hK _ _ ⟨Ra++[(b,e',m)],Rb,G++ks.map λk=>.prop (b+1) (e'+1) k (m k),by rw[eR];simp,?_,⟨_,rfl,⟨[_,_,_,_],rfl⟩⟩,?_,fs.trans f6,by simp;show⟨"A+B.6*(C+1),A.6*C,B.6",nW,k6⟩,λr hr=>?_,λb2 e2 m2 h2 k hk=>?_⟩
       ·obtain⟨zs,mI,_⟩:=hb.rows;show g6.fr (λb o hb hn hr _=>f6 b o hb hn hr) (f6.tup mI)
       ·have ua:Ra++[(b,e',m)]≠[]:=by simp
        rw[if_neg ua,if_neg ua];by_cases gn:Ra=[]
        ·clear eR mJ ua;subst gn;have hG0:G=[]:=lA.mp (by simpa using nW);clear nW vP qT hb;subst hG0
         simpa using iR
        ·rw[if_neg gn,if_neg gn] at iR;rw[Px,Py] at iR
         simpa using iR
       ·rcases bH.mp hr with hr | hr
        ·show vP r hr
        ·obtain⟨k,hk,rfl⟩:=bJ.mp hr;show⟨b,e',m,k,j8,rfl,(k1 k hk).1⟩
       ·rcases bH.mp h2 with h2 | h2
        ·show gQ _ (qT _ _ _ h2 k hk)
        ·simp at h2;obtain⟨rfl,rfl,rfl⟩:=h2;show iJ _ (bJ.mpr ⟨k,k2 k hk,rfl⟩)
      obtain⟨ex,rfl,hx⟩:=ao;rw[PA hx];show t9 _ rfl
     ·rintro env s5 ⟨Ra,Rb,G,eR,hr,ao,hb,fs,nW,vP,qT⟩;cases hr;rw[de] at eR;rw[<-eR] at nW qT hb;rw[if_neg au,if_neg au] at hb;obtain⟨ys,zp,_⟩:=h1.rows;show mH env s5 G ao qR au hb ((f0.trans f5).bI.trans fs) (fs _ _ gh (λ_ _ e=>by cases e) kr) (PC.fr (λb o hb hn hr _=>fs b o hb hn hr) (fs.tup zp)) nW vP qT
    show lp
   obtain⟨ex,rfl,hx⟩:=ao;exact aA h0.bf ?_
   exists h0.ls.1
   exact⟨by decide,λc5 Hg=>?_⟩
   exists ah
   exact⟨ah,?_⟩;show go _ (.new Hg)
  obtain⟨ex,rfl,hx⟩:=ao
  exists bQ
  conv=>whnf
  split<;>rename_i g
  ·simp at g;have:fl F R=[]:=lA.mp (by rw[<-mF,g];rfl);show Hc (Pz hC this) s0 f0
  ·simp at g;have au:fl F R≠[]:=λe=>by rw[e] at mF;show g (lA.mp mF)
   exact Pr h0 (λe Y' f'=>Hb (jI au) e Y' (f0.trans f')) λqR=>?_;show t8 qR au
 exists dG
 exact lT (LA ra cr Y Y2 F R (Te c s_ e ai bd aq lo hi cr)) ?_ ?_ ?_ _ _ _ ⟨[],R,[],rfl,hR,⟨[],rfl,.none _⟩,.refl,mD,.nil⟩
 ·rintro _ _ s0 ⟨_,_,_,_,_,_,fs,_⟩;show fs _ _ dG (by simpa using t5)
 ·rintro v rest env s0 ⟨Ra,Rb,bK,eR,hr,ao,fs,bQ,h4⟩ K hK;revert eR;exact hr.c λa b e' p m Rb g1 g2 g3 eR=>?_;have ub:∀a xs,Y2 a=some (.tup xs)->s0 a=some (.tup xs):=λa xs ha=>fs _ _ ha λhm=>by simp at hm;nomatch hm,mD,ha
  have mF:=h4.len;have Hh:bK.length<=8:=by
   have a1:=zg (F:=F) (R:=Ra);have a2:=congrArg List.length eR;simp at a2;show⟨"A.8,a:8,1:b,c:a+1,'B:c-1-(b-1),A~C,C.D,B~D+(E+1);1,1,1,1,1,1,1,-1",hN,b1,b2,mE,mF,a1,a2⟩
  exact B8 (ub _ _ g1) ?_;have uc:GP s0 p m:=g2.2.aB (old s0 fs);have turn:∀(q:Nat) (s1:So),s0 q=none->Fr [] s0 s1->GP s1 q (F m)->wSs (Wn (n+9)) [.iff (.cmp .gt (.bi .len [(.call 43 [(.v 63),(.v 88)])]) (.cI 0)) [.ex (.lm .append (.v 17) [(.tup [(.v 86),(.v 87),(.v 63),(.v 88)])])] []] [(3,.ref c.bf),(61,.int s_),(62,.int e),(89,.bA ai bd aq),(84,.int lo),(85,.int hi),(17,.ref cr),(86,.int b),(87,.int e'),(63,.ref p),(88,.ref q)] K Q aN s1:=by
   intro q s1 cZ fq gq;have zr:s1 cr=some (.lst bK):=fq _ _ bQ (by simp);have zt:q≠cr:=λe=>by nomatch e,bQ,cZ
   have Hi:q≠ra:=λe=>by nomatch e,old s0 fs _ _ fM (by simp),cZ
   exact O8 (uc.aB fq) gq λc3 s2 ks iG fc mw y8 sC gj=>?_;have vQ:=fq.trans fc;have zu:=fc _ _ zr (by simp);have gq2:=gq.aB fc
   exists mw
   by_cases u0:ks=[]
   ·clear sC y8 mw;subst u0;have hF:F m=m:=by
     funext k
     cases Classical.em (m k=F m k) with
     |inl h=>show h.symm
     |inr h=>cases gj k h
    exact hK _ _ ⟨Ra++[(b,e',m)],Rb,bK,by rw[eR];simp,g3,⟨_,rfl,⟨[_,_,_,_],rfl⟩⟩,fs.trans (vQ.mono (by simp)),zu,?_⟩;rw[Cu,zf (r:=(b,e',m)) hF];show R4 ra cr Y s2 F bK (fl F Ra++[]);rw[de];show h4.fr (λb o hb _ _ _=>vQ b o hb (by simp)) λa xs ha=>vQ a _ ha (by simp)
   ·have hF:F m≠m:=λe=>by
     clear gj y8 mw;obtain⟨k,ks,rfl⟩:=List.exists_cons_of_ne_nil u0;show(sC k (.head _)).2 (by rw[e])
    conv=>whnf
    split<;>rename_i g
    ·exists zu
     intro c4 lh;have c4cr:cr≠c4:=λe=>by rw[<-e,zu] at lh;cases lh
     have f4:Fr [] s2 (put s2 c4 (.tup [.int b,.int e',.ref p,.ref q])):=.new lh
     exists (f4 _ _ zu (by simp))
     exact⟨by unfold big;show⟨"A>100000,A.8",Hh⟩,?_⟩;have mK:Fr [cr] s0 (put (put s2 c4 (.tup [.int b,.int e',.ref p,.ref q])) cr (.lst (bK++[.ref c4]))):=((vQ.trans f4).mono (by simp)).trans (.put (by simp));have Hj:=gq2.aB f4;have ud:∀a xs,put s2 c4 (.tup [.int b,.int e',.ref p,.ref q]) a=some (.tup xs)->put (put s2 c4 (.tup [.int b,.int e',.ref p,.ref q])) cr (.lst (bK++[.ref c4])) a=some (.tup xs):=λa xs ha=>by
      rw[ae λe=>by nomatch e,f4 _ _ zu (by simp),ha];show ha
     have zC:∀a o,put s2 c4 (.tup [.int b,.int e',.ref p,.ref q]) a=some o->a≠cr->put (put s2 c4 (.tup [.int b,.int e',.ref p,.ref q])) cr (.lst (bK++[.ref c4])) a=some o:=λa o ha hn=>by
      rw[ae hn];show ha
     exact hK _ _ ⟨Ra++[(b,e',m)],Rb,bK++[.ref c4],by rw[eR];simp,g3,⟨_,rfl,⟨[_,_,_,_],rfl⟩⟩,fs.trans mK,ah,?_⟩;rw[Cu,zc (r:=(b,e',m)) hF];exact(h4.fr (λb o hb _ _ hn=>zC b o (f4 _ _ (vQ b o hb (by simp)) (by simp)) hn) λa xs ha=>ud _ _ (f4 _ _ (vQ a _ ha (by simp)) (by simp))).app (.cons (ud _ _ ah) g2 Hi zt ?_ .nil);obtain⟨l,⟨vs,w1,w2⟩,w3,w4⟩:=Hj;show⟨l,⟨vs,zC _ _ w1 zt,w2.fr ud⟩,w3,w4⟩
    ·exfalso;simp at g;show u0 g
  obtain⟨ex,rfl,hx⟩:=ao;obtain⟨e8,h8,u8⟩:=hx.three;rw[show Tactic.up (Tactic.up (Tactic.up (qQ c s_ e ai bd aq lo hi cr ex) 86 (.int b)) 87 (.int e')) 63 (.ref p)=qQ c s_ e ai bd aq lo hi cr ((86,.int b)::(87,.int e')::(63,.ref p)::e8) from congrArg (qQ c s_ e ai bd aq lo hi cr) (u8 _ _ _)];exact eJ s0 p m _ (old s0 fs) uc λq s1 cZ fq gq=>?_;have tr:=turn q s1 cZ fq gq;show wSs (Wn (n+9)) _ (qQ c s_ e ai bd aq lo hi cr ((86,.int b)::(87,.int e')::(63,.ref p)::Tactic.up e8 88 (.ref q))) K Q aN s1;rw[h8.up1];show tr
 ·rintro env s0 ⟨Ra,Rb,bK,eR,hr,ao,fs,bQ,h4⟩;cases hr;rw[de] at eR;subst eR;show jH env s0 bK ao fs bQ h4
end Tactic
namespace Tactic
variable{s Y s':So}{m:Env}{i j:Int}{es:List (Int×V)}{v:V}{W:Wo}{y:Nat}
def qW(Y:So)(v:V)(ev:Option Int):Prop:=match ev with
 |none=>v=.none
 |some j=>∃b,v=.ref b/\Y b=some (.tup [.int j])
def qW.fr{Y Y' v ev}(h:qW Y v ev)(f:∀a xs,Y a=some (.tup xs)->Y' a=some (.tup xs)):qW Y' v ev:=by
 cases ev with
 |none=>show h
 |some j=>obtain⟨b,e,h⟩:=h;show⟨b,e,f _ _ h⟩
def reached{n Q X c Y ra rd tk sv nt L M}{s e:Int}(h:Bs c Y ra rd tk sv nt L M)(h1:1<=s)(h2:s<e)(h3:e<=c.N+1)(hq:∀a Y',Fr [] Y Y'->Y' a=some (.tup [.int s,.int e])->Q (.ref a) Y'):(Wn (n+1)).call 36 [.ref c.bf,.int s,.int e] Q X Y:=by
 have el:(if e<s then e else s)=s:=if_neg ⟨"!a<b,b<a",h2⟩;have eh:(if s<e then e else s)=e:=if_pos h2;exact en (fd:=C8) rfl ?_;intro a ha;rw[el,eh];have f1:Fr [] Y (put Y a (.tup [.int s,.int e])):=.new ha;have gJ:=f1.k h.bf
 exists ah
 exact⟨rfl,?_⟩;exact aA gJ ?_;conv=>whnf
 split<;>rename_i e1
 ·simp at e1;show absurd e1 (Int.not_lt.mpr h1)
 ·exact aA gJ ?_;conv=>whnf
  split<;>rename_i e2
  ·simp at e2;show absurd e2 (Int.not_lt.mpr h3)
  ·intro b hb;show hq b _ (f1.trans (.new hb)) ah
def ali{n Q X c Y ra rd tk sv nt L M}{s e:Int}(h:Bs c Y ra rd tk sv nt L M)(h1:1<=s)(h3:e<=c.N+1)(hq:Q .none Y):(Wn (n+1)).call 33 [.ref c.bf,.int s,.int e] Q X Y:=by
 exact en (fd:=Jp) rfl ?_;exact aA h.bf ?_;conv=>whnf
 split<;>rename_i e1
 ·simp at e1;show absurd e1 (Int.not_lt.mpr h1)
 ·exact aA h.bf ?_;conv=>whnf
  split<;>rename_i e2
  ·simp at e2;show absurd e2 (Int.not_lt.mpr h3)
  ·show hq
def aml{n Q X c Y ra tk sv nt L M}(h:Bs c Y ra false tk sv nt L M)(hq:Q .none Y):(Wn (n+1)).call 35 [.ref c.bf] Q X Y:=by
 exact en (fd:=C7) rfl ?_;exact aA h.bf ?_;show hq
def PD{n Q X Y p m v ev}{k:Int}(h:GP Y p m)(hv:qW Y v ev)(hq:∀Y',Fr [] Y Y'->Q (.bool (decide (m k=ev))) Y'):(Wn (n+3)).call 50 [v,.ref p,.int k] Q X Y:=by
 obtain⟨l,hl,ho,cL⟩:=h;cases ev with
 |none=>
  cases hv
  exact en (fd:=C9) rfl ?_;exact get_ hl ho (λj c hj hc=>?_) (λhn=>?_)
  ·have:=hq (put Y c (.tup [.int j])) (.new hc);rw[<-cL k,hj] at this;show this
  ·have:=hq Y .refl;rw[<-cL k,hn] at this;show this
 |some i=>
  obtain⟨b,rfl,hb⟩:=hv;exact en (fd:=C9) rfl ?_;exact get_ hl ho (λj c hj hc=>?_) (λhn=>?_)
  ·have f1:Fr [] Y (put Y c (.tup [.int j])):=.new hc;exact aab ah (x:=.int j) rfl ?_;exact aab (f1.k hb) (x:=.int i) rfl ?_;exact O0 ?_;have:=hq (put Y c (.tup [.int j])) (.new hc);rw[<-cL k,hj] at this
   simpa using this
  ·have:=hq Y .refl;rw[<-cL k,hn] at this;show this
def sh(R:List (Int×Int×Mp)):List (Int×Int×Mp):=R.map λr=>(r.1+1,r.2.1+1,r.2.2)
def ah7{n Q X c Yp Y ra rd tk sv nt L M}{s e:Int}(h:Bs c Y ra rd tk sv nt L M)(fy:Tx ra Yp c.tr c.N M)(fp:Fr [] Yp Y)(hN:c.N<=8)(h1:1<=s)(h2:s<=e)(h3:e<=c.N+1)
  (hq:∀a Y' vs R,(∀b o,Y b=some o->a≠b)->Fr [] Y Y'->Y' a=some (.lst vs)->fC ra Yp Y' vs (sh R)->gK M (s-1) (e-1) R->Q (.ref a) Y'):(Wn (n+6)).call 49 [.ref c.bf,.int s,.int e] Q X Y:=by
 exact en (fd:=JC) rfl ?_;exact aA h.bf ?_;exact aA h.bf ?_
 exists h.tp
 have c84:∀Q':V->So->Prop,(∀c1 Y2 vs R,Fr [] Y Y2->Y2 c1=some (.lst vs)->fC ra Yp Y2 vs R->gK M (s-1) (e-1) R->Q' (.ref c1) Y2)->(Wn (n+5)).call 84 [.ref c.tp,.int (s-1),.int (e-1)] Q' X Y:=λQ' hQ=>by
  exact en (fd:=J7) rfl ?_;exact Pn (Yp:=Yp) fy fp ⟨"a:800,a:8",hN⟩ ⟨"0:a-1,1:a",h1⟩ ⟨"a-1:b-1,a:b",h2⟩ ⟨"a-1:b,a:b+1",h3⟩ h.tp λc1 Y2 vs R eo f3 dG hR hC=>?_;show hQ c1 Y2 vs R f3 dG hR hC
 exact c84 _ λc1 Y2 vs R f3 dG hR hC=>?_
 exists dG
 exact qx (λrest acc s=>∃Ra Rb,R=Ra++Rb/\fC ra Yp s rest Rb/\fC ra Yp s acc (sh Ra)/\Fr [] Y2 s) ?_ ?_ ?_ _ _ _ ⟨[],R,rfl,hR,.nil,.refl⟩
 ·rintro _ _ s ⟨_,_,_,_,_,fs⟩;show fs.k dG
 ·rintro v rest acc s ⟨Ra,Rb,eR,hr,hl,fs⟩ K-hK;revert eR;exact hr.c λa b e' p m Rb g1 g2 g3 eR=>?_;exact B8 g1 ?_;intro c6 ji;have f6:Fr [] s (put s c6 (.tup [.int (b+1),.int (e'+1),.ref p])):=.new ji;exact hK _ _ ⟨Ra++[(b,e',m)],Rb,by rw[eR];simp,g3.fr λa xs ha=>f6 a _ ha (by simp),?_,fs.trans f6⟩;have e1:sh (Ra++[(b,e',m)])=sh Ra++[(b+1,e'+1,m)]:=by unfold sh;simp
  rw[e1];show(hl.fr λa xs ha=>f6 a _ ha (by simp)).app (.cons ah g2 .nil)
 ·rintro acc s ⟨Ra,Rb,eR,hr,hl,fs⟩;cases hr;rw[de] at eR;subst eR;have pG:=hl.len;have eJ:=hC.len;have e1:(sh R).length=R.length:=by unfold sh;simp
  exact⟨by unfold big;show⟨"A>100000,a:8,1:b,c:a+1,A~B,'C:c-1-(b-1),B~C",hN,h1,h3,pG,eJ,e1⟩,λc7 fF=>?_⟩;have f7:Fr [] s (put s c7 (.lst acc)):=.new fF;show hq c7 _ acc R (λb o hb e=>by nomatch e,(f3.trans fs) b o hb (by simp),fF) ((f3.trans fs).trans f7) ah (hl.fr λa xs ha=>f7 a _ ha (by simp)) hC
def Hk{F:Mp->Mp}{R}:fl F (sh R)=sh (fl F R):=by
 induction R with
 |nil=>rfl
 |cons r R ih=>
  by_cases h:F r.2.2=r.2.2
  ·rw[zf h];show fl F ((r.1+1,r.2.1+1,r.2.2)::sh R)=_;rw[zf (by show h),ih]
  ·rw[zc h];show fl F ((r.1+1,r.2.1+1,r.2.2)::sh R)=(r.1+1,r.2.1+1,r.2.2)::sh (fl F R);rw[zc (by show h),ih]
def PF{m:Mp}{k:Int}{ev:Option Int}:upd m k ev=m↔m k=ev:=by
 constructor
 ·intro h;have:=congrFun h k;unfold upd at this;rw[if_pos rfl] at this;show this.symm
 ·intro h
  funext x
  unfold upd;split
  ·rename_i e;rw[e,h]
  ·rfl
abbrev jJ(c:Cf)(s e k:Int)(v:V)(cr:Nat)(ex:Env):Env:=(3,.ref c.bf)::(61,.int s)::(62,.int e)::(39,.int k)::(99,v)::(84,.int s)::(85,.int e)::(97,.ref cr)::ex
def Se(c:Cf)(s e k:Int)(v:V)(cr:Nat)(env:Env):Prop:=∃ex,env=jJ c s e k v cr ex/\Suf [98,87,63,88] ex
theorem PG{c s e k v cr ex x y z u}(h:Suf [98,87,63,88] ex):Tactic.up (Tactic.up (Tactic.up (Tactic.up (jJ c s e k v cr ex) 98 x) 87 y) 63 z) 88 u=jJ c s e k v cr [(98,x),(87,y),(63,z),(88,u)]:=
 congrArg (jJ c s e k v cr) h.four
def vR(R:List (Int×Int×Mp)):List (Int×Int×Mp):=R.map λr=>(r.1-1,r.2.1-1,r.2.2)
def ao9{R}:vR (sh R)=R:=by
 unfold vR sh;rw[List.map_map];have:((λr:Int×Int×Mp=>(r.1-1,r.2.1-1,r.2.2)) ∘ λr=>(r.1+1,r.2.1+1,r.2.2))=id:=by
  funext r
  show(r.1+1-1,r.2.1+1-1,r.2.2)=r;rw[Int.add_sub_cancel,Int.add_sub_cancel]
 rw[this,List.map_id]
inductive PH(c:Cf)(Y s0:So)(ra cr:Nat)(tk sv:Int)(nt:Option Int)(L:List Row)(M:Nat->Mp)(F:Mp->Mp)(R:List (Int×Int×Mp))(T:Env->Prop)(rest:List V)(env:Env)(s:So):Prop
 |mk (Ra Rb L'):R=Ra++Rb->R4 ra cr Y s F rest Rb->T env->Bs c s ra false tk sv nt L' M->L'.length=L.length+Ra.length->bD ra s0 s->PH c Y s0 ra cr tk sv nt L M F R T rest env s
def ag9{n Q X c Y ra tk sv nt L M v ev}{s_ e k:Int}(h:Bs c Y ra false tk sv nt L M)(ky:sv<tk)(hL:L.length<60000)(bF:0<=c.N)(hN:c.N<=8)(h1:1<=s_)(h2:s_<e)(h3:e<=c.N+1)(Hl:0<=k)(gj:k<=2)(uf:qW Y v ev)
  (hq:∀b Y' tk' L',Bs c Y' ra false tk' sv nt L' (mapM M (s_-1) (e-1) λm=>upd m k ev)->tk<=tk'->L'.length<=L.length+8->bD ra Y Y'->Q (.bool b) Y'):(Wn (n+11)).call 34 [.ref c.bf,.int s_,.int e,.int k,v] Q X Y:=by
 have PJ:v=.none\/∃b,v=.ref b:=by
  clear hq;cases ev with
  |none=>show .inl uf
  |some j=>show .inr ⟨_,uf.choose_spec.1⟩
 have jC:wSs (Wn (n+10)) kP.body [(3,.ref c.bf),(61,.int s_),(62,.int e),(39,.int k),(99,v)] (qN Q) Q X Y->(Wn (n+11)).call 34 [.ref c.bf,.int s_,.int e,.int k,v] Q X Y:=λh=>en (fd:=kP) rfl h (h2:=by clear h uf;rcases PJ with rfl | ⟨b,rfl⟩<;>rfl);exact jC ?_;clear jC;exact reached h h1 h2 h3 λa Y1 f1 ha=>?_
 exists ha
 exact⟨rfl,?_⟩;have qf:=h.aB f1;exact aml qf ?_;exact aA qf.bf ?_;intro cr zi;have zj:Y cr=none:=by
  cases hs:Y cr with
  |none=>rfl
  |some o=>nomatch f1.k hs,zi
 obtain⟨xs,fM,hu⟩:=h.rows;have kr:cr≠ra:=λe=>by nomatch e,fM,zj
 have f2:Fr [] Y (put Y1 cr (.lst [])):=f1.trans (.new zi);have jX:=h.aB f2;exact ah7 (Yp:=Y) jX h.tree f2 hN h1 ⟨"a:b,a<b",h2⟩ h3 λc1 Y2 vs R qX f3 dG hR hC=>?_;generalize Hm:(λm:Mp=>upd m k ev)=F at *;have vS:∀m,F m=upd m k ev:=λm=>by rw[<-Hm]
 have rF:=f2.trans f3;have mD:Y2 cr=some (.lst []):=f3.k ah;have t5:c1≠cr:=qX _ _ ah;have c1ra:c1≠ra:=qX _ _ (f2.k fM);have mE:=hC.len;have shl:(sh R).length=R.length:=by unfold sh;simp
 have old:∀s,Fr [cr] Y2 s->Fr [] Y s:=λs fs b o hb _=>fs b o (rF b o hb (by simp)) λhm=>by
  simp at hm
  nomatch hm,zj,hb
 have jH:∀(env:Env) (s0:So) (bK:List V),Se c s_ e k v cr env->Fr [cr] Y2 s0->s0 cr=some (.lst bK)->R4 ra cr Y s0 F bK (fl F (sh R))->wSs (Wn (n+10)) (kP.body.drop 5) env (qN Q) Q X s0:=by
  intro env s0 bK ao fs bQ h4;have f0:=old s0 fs;have h0:=h.aB f0;have mF:=h4.len;have jj:=zg (F:=F) (R:=sh R);have hR8:(fl F (sh R)).length<=8:=⟨"A.8,a:8,1:b,c:a+1,'B:c-1-(b-1),C~B,A.C",hN,h1,h3,mE,shl,jj⟩;have jk:∀r∈fl F R,s_-1<=r.1/\r.1<r.2.1/\r.2.1<=e-1/\∀i:Nat,r.1<=(i:Int)->(i:Int)<r.2.1->M i=r.2.2:=λr hr=>hC.mem r (vO.mp hr).1;have mG:=Ha F hC M λ_ _ _=>rfl;have mH:∀(env:Env) (s5:So) (L':List Row),Se c s_ e k v cr env->Bs c s5 ra false tk sv nt L' M->L'.length<=L.length+8->bD ra Y s5->s5 cr=some (.lst bK)->R4 ra cr Y s5 F bK (fl F (sh R))->wSs (Wn (n+10)) (kP.body.drop 6) env (qN Q) Q X s5:=by
   intro env s5 L' ao hb qY Cv pF Cw;have He:∀r∈turned F (fl F R),0<=r.1/\r.1<r.2.1/\r.2.1<=c.N:=λr hr=>by
    obtain⟨r0,sR,rfl⟩:=bJ.mp hr;have:=jk r0 sR;show⟨by show 0<=r0.1;show⟨"0:a,1:b,b-1:a",h1,this.1⟩,this.2.1,by show r0.2.1<=c.N;show⟨"a:b,c:b+1,a:c-1",h3,this.2.2.1⟩⟩
   by_cases au:fl F (sh R)=[]
   ·have Bq:bK=[]:=lA.mp (by rw[mF,au];rfl);clear h4 Cw mF bQ;subst Bq;have hM:mapM M (s_-1) (e-1) F=M:=Pz hC (by
     rw[Hk] at au;show List.map_eq_nil_iff.mp au)
    have aK:=hb;rw[<-hM] at aK;have fin:=hq false s5 tk L' aK (Int.le_refl _) qY Cv;obtain⟨ex,rfl,hx⟩:=ao
    exists pF
    exists pF
    show fin
   ·have aI:0<bK.length:=by rw[mF];show List.length_pos_iff.mpr au
    have last:∀(s8:So),s8 cr=some (.lst bK)->Q (.bool true) s8->∀env,Se c s_ e k v cr env->wSs (Wn (n+10)) (kP.body.drop 7) env (qN Q) Q X s8:=by
     intro s8 hs8 hQ env ao;obtain⟨ex,rfl,hx⟩:=ao
     exists hs8
     show Q (.bool (decide ((0:Int)<bK.length))) s8;rw[dJ (by show⟨"0<'A,0>A",aI⟩)];show hQ
    have ku:∀(s6:So) (c7:Nat) (acc:List V),Fr [] s5 s6->s6 c7=some (.lst acc)->RL ra s6 acc (turned F (fl F R))->∀env,Se c s_ e k v cr env->(Wn (n+10)).call 82 [.ref c.tp,.ref c7] (λ_ s=>wSs (Wn (n+10)) (.ex (.aJ (.v 3) 91 [(.cB false)])::[]) env (λm s=>wSs (Wn (n+10)) (kP.body.drop 7) m (qN Q) Q X s) Q X s) X s6:=by
     intro s6 c7 acc f6 fF Hf env ao;have iR:=hb.aB f6;obtain⟨zs,mI,_⟩:=iR.rows;exact en (fd:=J5) rfl ?_;exact Pl (n:=n) iR.tree ⟨"a:800,a:8",hN⟩ iR.tp ⟨zs,mI⟩ fF Hf He λbv s7 zk f7=>?_;rw[mG] at zk;have nY:=iR.gu f7 zk;obtain⟨rv,iB⟩:=iR.tree.ex.choose_spec.1.rt;have kQ:=(f6.bI (ra:=ra)).trans (f7.bI iB);have fin:∀env,Se c s_ e k v cr env->wSs (Wn (n+10)) (.ex (.aJ (.v 3) 91 [(.cB false)])::[]) env (λm s=>wSs (Wn (n+10)) (kP.body.drop 7) m (qN Q) Q X s) Q X s7:=by
      intro env ao;have l2:∀s8,Bs c s8 ra false (tk+1) sv nt L' (mapM M (s_-1) (e-1) F)->bD ra s7 s8->wSs (Wn (n+10)) (kP.body.drop 7) env (qN Q) Q X s8:=λs8 t7 f8=>by
       exact last s8 ((kQ.trans f8) _ _ pF (λ_ _ e=>by cases e) kr) ?_ env ao;show hq true s8 (tk+1) L' t7 ⟨"a:a+1"⟩ qY ((Cv.trans kQ).trans f8)
      obtain⟨ex,rfl,hx⟩:=ao
      exists nY.bf
      exact Pu nY λs8 t7 f8=>?_;show l2 s8 t7 f8
     show fin env ao
    have ga:∀env,Se c s_ e k v cr env->wE (Wn (n+10)) (.comp (.tup [(.ar .sub (.v 98) (.cI 1)),(.ar .sub (.v 87) (.cI 1)),(.v 88)]) [98,87,63,88] (.v 97) []) env (λv_ s=>wEs (Wn (n+10)) [] env (λvs s=>(Wn (n+10)).call 82 (.ref c.tp::v_::vs) (λ_ s=>wSs (Wn (n+10)) (.ex (.aJ (.v 3) 91 [(.cB false)])::[]) env (λm s=>wSs (Wn (n+10)) (kP.body.drop 7) m (qN Q) Q X s) Q X s) X s) X s) X s5:=by
     intro env ao;have Hn:lk env 97=some (.ref cr):=by obtain⟨ex,rfl,_⟩:=ao;rfl
     show(match lk env 97 with | some (.bA _ _ _)=>False | some v=>m7 _ v s5 | Option.none=>False)
     exact uG Hn (m9 pF ?_);exact qx (LG ra cr Y s5 F (fl F (sh R)) λRa=>turned F (vR Ra)) ?_ ?_ ?_ _ _ _ ⟨[],fl F (sh R),rfl,Cw,.nil,.refl⟩
     ·rintro _ _ s ⟨_,_,_,_,_,fs⟩;show fs.k pF
     ·rintro v_ rest acc s ⟨Ra,Rb,eR,hr,hl,fs⟩ K-hK;revert eR;exact hr.c λa b e' p q m Rb g1 g2 g3 g4 g5 g6 eR=>?_;exact B9 g1 ?_;have fin:∀c6,s c6=none->K (some (.ref c6)) (put s c6 (.tup [.int (b-1),.int (e'-1),.ref q])):=λc6 ji=>by
       have f6:Fr [] s (put s c6 (.tup [.int (b-1),.int (e'-1),.ref q])):=.new ji;exact hK _ _ ⟨Ra++[(b,e',m)],Rb,by rw[eR];simp,g6.fr (λb o hb _ _ _=>f6 b o hb (by simp)) (λa xs ha=>f6 a _ ha (by simp)),?_,fs.trans f6⟩;have e1:turned F (vR (Ra++[(b,e',m)]))=turned F (vR Ra)++[(b-1,e'-1,F m)]:=by unfold turned vR;simp
       rw[e1];show(hl.aB f6).app (.cons ah ⟨g3,g5.aB f6⟩ .nil)
      obtain⟨ex,rfl,hx⟩:=ao;rw[PG hx];show fin
     ·rintro acc s ⟨Ra,Rb,eR,hr,hl,fs⟩;cases hr;rw[de] at eR;rw[<-eR,Hk,ao9] at hl;have pG:=hl.len;have ht:(turned F (fl F R)).length=(fl F R).length:=by unfold turned;simp
      exact⟨⟨"A>100000,A~B,B~C,C.D,'D:a-1-(b-1),1:b,a:c+1,c:8",pG,ht,zg (F:=F) (R:=R),mE,h1,h3,hN⟩,λc7 fF=>?_⟩;show ku _ c7 acc (fs.trans (.new fF)) ah (hl.aB (.new fF)) env ao
    have gg:∀env,Se c s_ e k v cr env->wSs (Wn (n+10)) [.ex (.aJ (.attr (.v 3) 27) 101 [(.comp (.tup [(.ar .sub (.v 98) (.cI 1)),(.ar .sub (.v 87) (.cI 1)),(.v 88)]) [98,87,63,88] (.v 97) [])]),.ex (.aJ (.v 3) 91 [(.cB false)])] env (λm s=>wSs (Wn (n+10)) (kP.body.drop 7) m (qN Q) Q X s) Q X s5:=by
     intro env ao;have g:=ga env ao;obtain⟨ex,rfl,hx⟩:=ao;exact aA hb.bf ?_
     exists hb.tp
     show g
    have g:=gg env ao;obtain⟨ex,rfl,hx⟩:=ao
    exists pF
    conv=>whnf
    split<;>rename_i g5
    ·show g
    ·exfalso;simp at g5;rw[g5] at aI;show absurd aI (by decide)
  obtain⟨zs0,zE,_⟩:=h0.rows;have lp:m8 (Wn (n+10)) (.v 97) env (wE (Wn (n+10)) (.v 97) env) (λvs Gg s=>loop (λv m K s=>fJ [98,87,63,88] v m (λm'=>wSs (Wn (n+10)) [.iff (.cmp .aX (.attr (.v 3) 14) .cN) [.ex (.aJ (.attr (.v 3) 14) 100 [(.v 3),(.v 98),(.v 87),(.v 39),(.call 52 [(.v 63),(.v 39)])])] []] m' K Q aN s) s) Gg (λm s=>wSs (Wn (n+10)) (kP.body.drop 6) m (qN Q) Q X s) vs env s) X s0:=by
   have Hn:lk env 97=some (.ref cr):=by obtain⟨ex,rfl,_⟩:=ao;rfl
   show(match lk env 97 with | some (.bA _ _ _)=>False | some v=>m7 _ v s0 | Option.none=>False)
   exact uG Hn (m9 bQ ?_);exact lT (PH c Y s0 ra cr tk sv nt L M F (fl F (sh R)) (Se c s_ e k v cr)) ?_ ?_ ?_ _ _ _ ⟨[],fl F (sh R),L,rfl,h4,ao,h0,by simp,.refl⟩
   ·rintro _ _ s ⟨_,_,_,_,_,_,_,_,fs⟩;show fs _ _ bQ (λ_ _ e=>by cases e) kr
   ·rintro v_ rest env s5 ⟨Ra,Rb,L',eR,hr,ao,hb,qY,fs⟩ K hK;revert eR;exact hr.c λa b e' p q m Rb g1 g2 g3 g4 g5 g6 eR=>?_;exact B9 g1 ?_;have j8:(b,e',m)∈fl F (sh R):=by rw[eR];simp
    have ya:b<e':=by
     rw[Hk] at j8;obtain⟨r0,sR,er⟩:=bJ.mp j8;have:=jk r0 sR;injection er with e1 e2;injection e2 with e2 e3;show⟨"a<b,c<d,c+1=a,d+1=b;1,1,-1,1",this.2.1,e1,e2⟩
    have gp:GP s5 p m:=(g2.2.aB f0).bI fs g2.1 zE;have mJ:Ra.length<=8:=by have:=congrArg List.length eR;simp at this;show⟨"A.8,a:8,1:b,c:a+1,'B:c-1-(b-1),C~B,D.C,D~A+(E+1);1,1,1,1,1,1,1,-1",hN,h1,h3,mE,shl,jj,this⟩
    obtain⟨lp,G9,ho,cL⟩:=gp;have pcn:pc tk sv nt=[]:=by unfold pc;rw[if_neg (λe=>⟨"_,a<b,b:a;0,1,1",ky,e.1⟩)]
    have ntn:fE tk sv nt=nt:=by unfold fE;rw[if_neg ⟨"!a:b,b<a",ky⟩]
    have mL:∀(s6:So) (w:V),Fr [] s5 s6->qW s6 w (m k)->(Wn (n+10)).call 81 [.ref c.un,.ref c.bf,.int b,.int e',.int k,w] (λ_ s=>K (jJ c s_ e k v cr [(98,.int b),(87,.int e'),(63,.ref p),(88,.ref q)]) s) aN s6:=by
     intro s6 w f6 hw;exact Pw (hb.aB f6) ⟨"A>80000,B>60000,A~B+C,C.8",hL,qY,mJ⟩ ya hw λs7 nY f7=>?_;rw[pcn,ntn,de] at nY;obtain⟨zs,mI,_⟩:=hb.rows;have kQ:=(f6.bI (ra:=ra)).trans f7;show hK _ _ ⟨Ra++[(b,e',m)],Rb,_,by rw[eR];simp,g6.fr (λb o hb hn hr _=>kQ b o hb hn hr) (kQ.tup mI),⟨_,rfl,⟨[_,_,_,_],rfl⟩⟩,nY,by simp;show⟨"A+1~B+(C+1),A~B+C;1,1;1,-1",qY⟩,fs.trans kQ⟩
    obtain⟨ex,rfl,hx⟩:=ao;rw[PG hx];exact aA hb.bf ?_;exact aA hb.bf ?_
    exists hb.un
    exact get_ G9 ho (λj cc hj fL=>?_) (λhn=>?_)
    ·show mL _ _ (.new fL) (by rw[<-cL k,hj];show⟨cc,rfl,ah⟩)
    ·show mL _ _ .refl (by rw[<-cL k,hn];rfl)
   ·rintro env s5 ⟨Ra,Rb,L',eR,hr,ao,hb,qY,fs⟩;cases hr;rw[de] at eR;rw[<-eR] at qY;show mH env s5 L' ao hb ⟨"A.B+8,a:8,1:b,c:a+1,'C:c-1-(b-1),D~C,E.D,A~B+E",hN,h1,h3,mE,shl,jj,qY⟩ (f0.bI.trans fs) (fs _ _ bQ (λ_ _ e=>by cases e) kr) (h4.fr (λb o hb hn hr _=>fs b o hb hn hr) (fs.tup zE))
  show lp
 exists dG
 exact lT (LA ra cr Y Y2 F (sh R) (Se c s_ e k v cr)) ?_ ?_ ?_ _ _ _ ⟨[],sh R,[],rfl,hR,⟨[],rfl,.none _⟩,.refl,mD,.nil⟩
 ·rintro _ _ s0 ⟨_,_,_,_,_,_,fs,_⟩;show fs _ _ dG (by simpa using t5)
 ·rintro vv rest env s0 ⟨Ra,Rb,bK,eR,hr,ao,fs,bQ,h4⟩ K hK;revert eR;exact hr.c λa b e' p m Rb g1 g2 g3 eR=>?_;have ub:∀a xs,Y2 a=some (.tup xs)->s0 a=some (.tup xs):=λa xs ha=>fs _ _ ha λhm=>by simp at hm;nomatch hm,mD,ha
  have mF:=h4.len;have Hh:bK.length<=8:=by
   have a1:=zg (F:=F) (R:=Ra);have a2:=congrArg List.length eR;simp at a2;show⟨"A.8,a:8,1:b,c:a+1,'B:c-1-(b-1),C~B,A~D,D.E,C~E+(F+1);1,1,1,1,1,1,1,1,-1",hN,h1,h3,mE,shl,mF,a1,a2⟩
  exact B8 (ub _ _ g1) ?_;have qZ:=old s0 fs;have uc:GP s0 p m:=g2.2.aB qZ;have q8:qW s0 v ev:=uf.fr λa xs ha=>qZ a _ ha (by simp);have add:∀(q:Nat) (s1:So),m k≠ev->s0 q=none\/q≠cr/\q≠ra->Fr [] s0 s1->GP s1 q (F m)->wSs (Wn (n+10)) [.ex (.lm .append (.v 97) [(.tup [(.v 98),(.v 87),(.v 63),(.v 88)])])] (jJ c s_ e k v cr [(98,.int b),(87,.int e'),(63,.ref p),(88,.ref q)]) K Q aN s1:=by
   intro q s1 hm cZ fq gq;have zr:s1 cr=some (.lst bK):=fq.k bQ;have zt:q≠cr:=λe=>by
    rcases cZ with cZ | cZ
    ·nomatch e,bQ,cZ
    ·show cZ.1 e
   have Hi:q≠ra:=λe=>by
    rcases cZ with cZ | cZ
    ·nomatch e,qZ.k fM,cZ
    ·show cZ.2 e
   have hF:F m≠m:=λem=>hm (PF.mp (by rw[<-vS];show em))
   exists zr
   intro c4 lh;have f4:Fr [] s1 (put s1 c4 (.tup [.int b,.int e',.ref p,.ref q])):=.new lh
   exists (f4.k zr)
   exact⟨by unfold big;show⟨"A>100000,A.8",Hh⟩,?_⟩;have mK:Fr [cr] s0 (put (put s1 c4 (.tup [.int b,.int e',.ref p,.ref q])) cr (.lst (bK++[.ref c4]))):=((fq.trans f4).mono (by simp)).trans (.put (by simp));have Hj:=gq.aB f4;have ud:∀a xs,put s1 c4 (.tup [.int b,.int e',.ref p,.ref q]) a=some (.tup xs)->put (put s1 c4 (.tup [.int b,.int e',.ref p,.ref q])) cr (.lst (bK++[.ref c4])) a=some (.tup xs):=λa xs ha=>by
    rw[ae λe=>by nomatch e,f4.k zr,ha];show ha
   have zC:∀a o,put s1 c4 (.tup [.int b,.int e',.ref p,.ref q]) a=some o->a≠cr->put (put s1 c4 (.tup [.int b,.int e',.ref p,.ref q])) cr (.lst (bK++[.ref c4])) a=some o:=λa o ha hn=>by
    rw[ae hn];show ha
   exact hK _ _ ⟨Ra++[(b,e',m)],Rb,bK++[.ref c4],by rw[eR];simp,g3,⟨_,rfl,⟨[_,_,_,_],rfl⟩⟩,fs.trans mK,ah,?_⟩;rw[Cu,zc (r:=(b,e',m)) hF];exact(h4.fr (λb o hb _ _ hn=>zC b o (f4.k (fq b o hb (by simp))) hn) λa xs ha=>ud _ _ (f4.k (fq a _ ha (by simp)))).app (.cons (ud _ _ ah) g2 Hi zt ?_ .nil);obtain⟨l,⟨vs,w1,w2⟩,w3,w4⟩:=Hj;show⟨l,⟨vs,zC _ _ w1 zt,w2.fr ud⟩,w3,w4⟩
  have skip:∀(s1:So) (jl:Env),m k=ev->Fr [] s0 s1->Se c s_ e k v cr jl->K jl s1:=by
   intro s1 jl hm fq zF;have hF:F m=m:=by rw[vS];show PF.mpr hm
   exact hK _ _ ⟨Ra++[(b,e',m)],Rb,bK,by rw[eR];simp,g3,zF,fs.trans (fq.mono (by simp)),fq.k bQ,?_⟩;rw[Cu,zf (r:=(b,e',m)) hF];show R4 ra cr Y s1 F bK (fl F Ra++[]);rw[de];show h4.fr (λb o hb _ _ _=>fq b o hb (by simp)) λa xs ha=>fq a _ ha (by simp)
  have nw:∀s3 q,Fr [] s0 s3->s3 q=none->q≠cr/\q≠ra:=λs3 q f hq=>⟨(λe=>by nomatch e,f.k bQ,hq),(λe=>by nomatch e,f.k (qZ.k fM),hq)⟩
  clear hK jH;rcases PJ with rfl | ⟨vb,rfl⟩
  ·have evn:ev=none:=by
    clear vS add q8 Hm skip;cases ev with
    |none=>rfl
    |some j=>obtain⟨b,h,_⟩:=uf;cases h
   obtain⟨ex,rfl,hx⟩:=ao;obtain⟨e8,h8,u8⟩:=hx.three;rw[show Tactic.up (Tactic.up (Tactic.up (jJ c s_ e k _ cr ex) 98 (.int b)) 87 (.int e')) 63 (.ref p)=jJ c s_ e k _ cr ((98,.int b)::(87,.int e')::(63,.ref p)::e8) from congrArg (jJ c s_ e k _ cr) (u8 _ _ _)];exact PD uc q8 λs3 nZ=>?_;by_cases hm:m k=ev
   ·rw[dJ hm];exact skip s3 _ hm nZ ?_;show⟨_,rfl,h8.cons.cons.cons⟩
   ·rw[fS hm];exact aj9 (uc.aB nZ) λq s4 Ho f4 gq=>?_;rw[<-evn,<-vS] at gq;have ad:=add q s4 hm (.inr (nw s3 q nZ Ho)) (nZ.trans f4) gq;show wSs (Wn (n+10)) _ (jJ c s_ e k _ cr ((98,.int b)::(87,.int e')::(63,.ref p)::Tactic.up e8 88 (.ref q))) K Q aN s4;rw[h8.up1];show ad
  ·obtain⟨j,rfl,hvb⟩:∃j,ev=some j/\Y vb=some (.tup [.int j]):=by
    clear vS add q8 Hm skip;cases ev with
    |none=>cases uf
    |some j=>obtain⟨b,h,h'⟩:=uf;cases h;show⟨j,rfl,h'⟩
   obtain⟨ex,rfl,hx⟩:=ao;obtain⟨e8,h8,u8⟩:=hx.three;rw[show Tactic.up (Tactic.up (Tactic.up (jJ c s_ e k _ cr ex) 98 (.int b)) 87 (.int e')) 63 (.ref p)=jJ c s_ e k _ cr ((98,.int b)::(87,.int e')::(63,.ref p)::e8) from congrArg (jJ c s_ e k _ cr) (u8 _ _ _)];exact PD uc q8 λs3 nZ=>?_;by_cases hm:m k=some j
   ·rw[dJ hm];exact skip s3 _ hm nZ ?_;show⟨_,rfl,h8.cons.cons.cons⟩
   ·rw[fS hm];exact aab (nZ.k (qZ.k hvb)) (x:=.int j) rfl ?_;exact qH (uc.aB nZ) Hl gj λq s4 Ho f4 gq=>?_;rw[<-vS] at gq;have ad:=add q s4 hm (.inr (nw s3 q nZ Ho)) (nZ.trans f4) gq;show wSs (Wn (n+10)) _ (jJ c s_ e k _ cr ((98,.int b)::(87,.int e')::(63,.ref p)::Tactic.up e8 88 (.ref q))) K Q aN s4;rw[h8.up1];show ad
 ·rintro env s0 ⟨Ra,Rb,bK,eR,hr,ao,fs,bQ,h4⟩;cases hr;rw[de] at eR;subst eR;show jH env s0 bK ao fs bQ h4
def Bs.apB{c Y Y1 ra bM rd tk sv nt L L' M dQ}(h:Bs c Y ra rd tk sv nt L M)(f:Fr [] Y Y1)(hn:Y bM=none)(h1:Y1 bM=some (.lst dQ))(h2:UR Y1 dQ L'):Bs c (put Y1 c.ul (nS bM nt)) bM rd tk sv nt L' M:=by
 have nr:∀b o,Y b=some o->b≠bM:=λb o hb e=>by nomatch e,hn,hb
 have Hp:=f _ _ h.ul (by simp);have g:∀{b o},Y b=some o->o≠nS ra nt->put Y1 c.ul (nS bM nt) b=some o:=λ{b o} e n=>by
  rw[ae λq=>by nomatch q,h.ul,e;show n rfl];show f _ _ e (by simp)
 obtain⟨v,hv⟩:=h.tree.ex.choose_spec.1.rt;obtain⟨ys,h3,h4,h5⟩:=h.ce;have PK:∀b o,Y1 b=some o->(∀c fs,o≠.inst c fs)->put Y1 c.ul (nS bM nt) b=some o:=λb o e n=>by
  rw[ae λq=>by nomatch q,Hp,e;show n _ _ rfl];show e
 exact⟨g h.bf (by simp),g h.un (by simp),ah,⟨dQ,PK _ _ h1 (by simp),h2.fr λa xs e=>PK _ _ e (by simp)⟩,⟨g h.ls.1 (by simp),nr _ _ h.ls.1⟩,g h.tx (by simp),⟨ys,g h3 (by simp),h4,nr _ _ h3⟩,g h.tp (by simp),?_,g h.aW (by simp)⟩;obtain⟨sq,a,b,d⟩:=h.tree;exact⟨sq,(a.aB f).fr (λx hx=>ae λq=>?_) (ae λq=>?_),b,λi p hp=>?_⟩
 ·obtain⟨A,B,n,p,rfl⟩:=pg hx;obtain⟨_,_,_,_,e⟩:=a.node
  nomatch q,h.ul,e
 ·nomatch q,h.ul,hv
 ·obtain⟨q0,l,⟨vs,q1,q2⟩,q3,q4⟩:=d i p hp;show⟨nr _ _ q1,l,⟨vs,g q1 (by simp),q2.fr λx xs hx=>g hx (by simp)⟩,q3,q4⟩
def aoY{n Q X c Y ra rd tk sv nt L M}{t u:Int}(h:Bs c Y ra rd tk sv nt L M)(hL:L.length<90000)(hq:∀Y' bM L',Bs c Y' bM rd tk sv nt L' M->bD ra Y Y'->Y bM=none->L'.length=L.length->Q .none Y'):(Wn (n+1)).call 83 [.ref c.ul,.int t,.int u] Q X Y:=by
 obtain⟨xs,hx,hu⟩:=h.rows;have Cy:=hu.len;exact en (fd:=J6) rfl ?_;intro o ho;have f1:Fr [] Y (put Y o (.tup [.str 71,.int t])):=.new ho;have h1:=h.aB f1;exact aA h1.ul ?_
 exists (f1 _ _ hx (by simp))
 exact qx (λrest acc s=>∃La Lb L',L=La++Lb/\UR s rest Lb/\UR s acc L'/\L'.length=La.length/\Fr [] (put Y o (.tup [.str 71,.int t])) s) ?_ ?_ ?_ _ _ _ ⟨[],L,[],rfl,hu.fr λa xs ha=>f1 a _ ha (by simp),.nil,rfl,.refl⟩
 ·rintro _ _ s ⟨_,_,_,_,_,_,_,fs⟩;show fs _ _ (f1 _ _ hx (by simp)) (by simp)
 ·rintro v rest acc s ⟨La,Lb,L',eL,hr,ha,hl,fs⟩ K-hK;revert eL;exact hr.c λa r Lb g1 g2 eL=>?_;have hW:=fs _ _ (ah (Y:=Y) (a:=o) (o:=.tup [.str 71,.int t])) (by simp);exact .inl ⟨Dr r,Dr (.dP t),g1.rd,aba.rd (r:=.dP t) hW,Ct _,Ct _,?_⟩;cases hb:Da.eq (Dr r) (Dr (.dP t)) with
  |true=>
   intro c6 ji;have f6:Fr [] s (put s c6 (.tup [.str 71,.int u])):=.new ji;exact hK _ _ ⟨La++[r],Lb,L'++[.dP u],by rw[eL];simp,g2.fr λa xs ha=>f6 a _ ha (by simp),(ha.fr λa xs ha=>f6 a _ ha (by simp)).app (.cons (r:=.dP u) (show aba _ _ (.dP u) from ah) .nil),by simp[hl],fs.trans f6⟩
  |false=>
   show hK _ _ ⟨La++[r],Lb,L'++[r],by rw[eL];simp,g2,ha.app (.cons g1 .nil),by simp[hl],fs⟩
 ·rintro acc s ⟨La,Lb,L',eL,hr,ha,hl,fs⟩;cases hr;rw[de] at eL;subst eL;have lO:=ha.len;exact⟨by unfold big;show⟨"A>100000,B>90000,C~B,A~C",hL,hl,lO⟩,λc7 fF=>?_⟩;have f7:Fr [] s (put s c7 (.lst acc)):=.new fF;have fall:=(f1.trans fs).trans f7;have h7:=h.aB fall;have n7:Y c7=none:=by
   cases hs:Y c7 with
   |none=>rfl
   |some o=>nomatch (f1.trans fs) _ _ hs (by simp),fF
  exact sat h7.ul ?_;exact hq _ c7 L' (h.apB fall n7 ah (ha.fr λa xs ha=>f7 a _ ha (by simp))) (fall.bI.trans (.inst h7.ul)) n7 hl
def aiW{n Q X c Y ra tk sv nt L M bh vs LL ev}{i:Nat}{s e k:Int}(h:Bs c Y ra false tk sv nt L M)(ky:sv<tk)(hL:L.length<60000)(bF:0<=c.N)(hN:c.N<=8)(hr:Y bh=some (.lst vs))(hu:UR Y vs LL)(hi:LL[i]?=some (.prop s e k ev))
  (h1:1<=s) (h2:s<e) (h3:e<=c.N+1) (Hl:0<=k) (gj:k<=2)
  (hq:∀Y' tk' L',Bs c Y' ra false tk' sv nt L' (mapM M (s-1) (e-1) λm=>upd m k ev)->tk<=tk'->L'.length<=L.length+8->bD ra Y Y'->Q (.int i) Y'):(Wn (n+12)).call 20 [.ref c.bf,.ref bh,.int ((i+1:Nat):Int)] Q X Y:=by
 obtain⟨a,ha,fB⟩:=hu.at_ hi;have ei:((i+1:Nat):Int)-1=(i:Int):=⟨"'(A+1)-1='A"⟩;exact en (fd:=C6) rfl ?_;exact eU hr (x:=.ref a) (by rw[ei];show mq ha) ?_;have ev':∃w,Y a=some (.tup [.str 70,.int s,.int e,.int k,w])/\qW Y w ev:=by
  clear hi hq;cases ev with
  |none=>show⟨.none,fB,rfl⟩
  |some j=>obtain⟨b,g1,g2⟩:=fB;show⟨.ref b,g1,b,rfl,g2⟩
 obtain⟨w,hw,hwe⟩:=ev';exact aab hw (x:=.str 70) rfl ?_;exact aab hw (x:=.str 70) rfl ?_;exact aab hw (x:=.str 70) rfl ?_;exact aab hw (x:=.str 70) rfl ?_;exact aab hw (x:=.int s) rfl ?_;exact aab hw (x:=.int e) rfl ?_;exact ali h h1 h3 ?_;exact aab hw (x:=.int s) rfl ?_;exact aab hw (x:=.int e) rfl ?_;exact aab hw (x:=.int k) rfl ?_;exact aab hw (x:=w) rfl ?_;exact ag9 h ky hL bF hN h1 h2 h3 Hl gj hwe λb Y' tk' L' hb ht hl f=>?_;show Q (.int (((i+1:Nat):Int)-1)) Y';rw[ei];show hq Y' tk' L' hb ht hl f
def pH(ra bM:Nat)(Y s:So):Prop:=∀b o,Y b=some o->(∀c fs,o≠.inst c fs)->b≠ra->s b=some o/\b≠bM
theorem bD.x{ra Y s}(f:bD ra Y s):pH ra ra Y s:=λb o hb hn hr=>⟨f b o hb hn hr,hr⟩
theorem pH.trans{ra bM zG Y s t}(f:pH ra bM Y s)(g:pH bM zG s t):pH ra zG Y t:=λb o hb hn hr=>g b o (f b o hb hn hr).1 hn (f b o hb hn hr).2
def aj7{n Q X c Y ra tk sv nt L M bh vs LL}{i:Nat}(h:Bs c Y ra false tk sv nt L M)(hL:L.length<60000)(hr:Y bh=some (.lst vs))(hu:UR Y vs LL)(hi:LL[i]?=some (.dP sv))
  (hq:∀Y' bM L',Bs c Y' bM false tk tk nt L' M->pH ra bM Y Y'->Q (.int i) Y'):(Wn (n+12)).call 20 [.ref c.bf,.ref bh,.int ((i+1:Nat):Int)] Q X Y:=by
 obtain⟨a,ha,fB⟩:=hu.at_ hi;have ei:((i+1:Nat):Int)-1=(i:Int):=⟨"'(A+1)-1='A"⟩;have hw:Y a=some (.tup [.str 71,.int sv]):=fB;exact en (fd:=C6) rfl ?_;exact eU hr (x:=.ref a) (by rw[ei];show mq ha) ?_;exact aab hw (x:=.str 71) rfl ?_;exact aab hw (x:=.str 71) rfl ?_;exact aab hw (x:=.str 71) rfl ?_;exact aab hw (x:=.str 71) rfl ?_;exact aab hw (x:=.str 71) rfl ?_;exact aab hw (x:=.int sv) rfl ?_;exact aA h.bf ?_;conv=>whnf
 split<;>rename_i g
 ·exists h.bf
  exact ajT h λY1 h1 f1=>?_;obtain⟨ys,zp,_⟩:=h.rows;have hw1:=f1.tup zp _ _ hw;exact aA h1.bf ?_;exact aA h1.bf ?_;exact aA h1.un ?_
  exists h1.ul
  exact aab hw1 (x:=.int sv) rfl ?_;exact aA h1.bf ?_;exact aoY h1 ⟨"A>90000,A>60000",hL⟩ λY2 bM L' h2 f2 n2 _=>?_;show Q (.int (((i+1:Nat):Int)-1)) Y2;rw[ei];show hq Y2 bM L' h2 λb o hb hn hr=>⟨(f1.trans f2) b o hb hn hr,λe=>by
   have:=f1 b o hb hn hr
   nomatch e,n2,this⟩
 ·simp at g
def above{n Q X bh vs Y}{P G B T:List Row}(hr:Y bh=some (.lst vs))(hu:UR Y vs (P++G++B++T))(hb:Y 884=some (.tup [.str 16]))(hB:∀r∈B,r=.aW)(hG:G≠[])(Hq:∀r∈G,pE r=false)(hq:Q (.int ((P++G).length:Nat)) Y):(Wn (n+1)).call 19 [.ref bh,.int ((P++G++B).length:Nat)] Q X Y:=by
 exact en (fd:=Je) rfl ?_;intro P_ hP;have key:∀(B T:List Row),(∀r∈B,r=.aW)->UR Y vs (P++G++B++T)->P_ [(17,.ref bh),(6,.int ((P++G++B).length:Nat))] Y:=by
  intro B;induction vT:B.length generalizing B with
  |zero=>
   intro T _ hu;have:B=[]:=lA.mp vT;subst this;obtain⟨G',g,eG⟩:∃G' g,G=G'++[g]:=⟨_,_,(List.dropLast_concat_getLast hG).symm⟩;have hg:=Hq g (by rw[eG];simp);have hi:(P++G++[]++T)[(P++G').length]?=some g:=by rw[eG];simp
   obtain⟨a,ha,fB⟩:=hu.at_ hi;have en:((P++G++[]).length:Nat)=(P++G').length+1:=by rw[eG];simp;show⟨"A+(B+1)~A+B+1"⟩
   rw[en];have ei:(((P++G').length+1:Nat):Int)-1=((P++G').length:Int):=⟨"'(A+1)-1='A"⟩;exact hP _ _ ?_;conv=>whnf
   split<;>rename_i g1
   ·exact eU hr (x:=.ref a) (by rw[ei];show mq ha) ?_;have:((P++G).length:Nat)=(P++G').length+1:=by rw[eG];simp;show⟨"A+(B+1)~A+B+1"⟩
    rw[this] at hq;have r:=zb (K:=λt=>match t with
     |true=>P_ [(17,.ref bh),(6,.int ((((P++G').length+1:Nat):Int)-1))] Y
     |false=>Q (.int (((P++G').length+1:Nat):Int)) Y) fB hb (by rw[hg];show hq)
    show r
   ·simp at g1;show False.elim ⟨"_,'A+'B+1:0",g1⟩
  |succ d ih=>
   intro T hB hu;obtain⟨B',b,eB⟩:∃B' b,B=B'++[b]:=⟨_,_,(List.dropLast_concat_getLast (by intro e;nomatch e,vT)).symm⟩
   have qP:=hB b (by rw[eB];simp);subst qP;have hi:(P++G++B++T)[(P++G++B').length]?=some .aW:=by rw[eB];simp
   obtain⟨a,ha,fB⟩:=hu.at_ hi;have en:((P++G++B).length:Nat)=(P++G++B').length+1:=by rw[eB];simp;show⟨"A+(B+(C+1))~A+(B+C)+1"⟩
   rw[en];have ei:(((P++G++B').length+1:Nat):Int)-1=((P++G++B').length:Int):=⟨"'(A+1)-1='A"⟩;exact hP _ _ ?_;conv=>whnf
   split<;>rename_i g1
   ·exact eU hr (x:=.ref a) (by rw[ei];show mq ha) ?_;have:=ih B' (by rw[eB] at vT;simpa using vT) ([.aW]++T) (λr hr=>hB r (by rw[eB];simp[hr])) (by rw[eB] at hu;simpa using hu);have r:=zb (K:=λt=>match t with
     |true=>P_ [(17,.ref bh),(6,.int ((((P++G++B').length+1:Nat):Int)-1))] Y
     |false=>Q (.int (((P++G++B').length+1:Nat):Int)) Y) fB hb (by
      show P_ [(17,.ref bh),(6,.int ((((P++G++B').length+1:Nat):Int)-1))] Y;rw[ei];show this)
    show r
   ·simp at g1;show False.elim ⟨"_,'A+'B+1:0",g1⟩
 show key B T hB hu
def ahU{n Q X c Y ra tk sv nt L M M' bh vs}{P U G B T:List Row}(h:Bs c Y ra false tk sv nt L M')(ky:sv<tk)(hL:L.length+8 * G.length<50000)(bF:0<=c.N)(hN:c.N<=8)(hr:Y bh=some (.lst vs))(Hr:bh≠ra)(hu:UR Y vs (P++(U++G)++B++T))(hB:∀r∈B,r=.aW)(hP:P=[]\/∃P',P=P'++[.aW])(hU:U=[]\/U=[.dP sv])(hG:mC c.N M M' G)(Hs:G≠[])
  (hq:∀Y' bM tk' sv' L',Bs c Y' bM false tk' sv' nt L' M->(if U=[] then sv'=sv/\sv'<tk' else sv'=tk')->L'.length<=L.length+8 * G.length\/U≠[]->pH ra bM Y Y'->Q (.int (P.length:Nat)) Y'):(Wn (n+13)).call 8 [.ref c.bf,.ref bh,.int ((P++(U++G)++B).length:Nat)] Q X Y:=by
 have Hq:∀r∈U++G,pE r=false:=λr hr=>by
  rcases bH.mp hr with hr | hr
  ·clear hq hu;rcases hU with rfl | rfl
   ·cases hr
   ·simp at hr;subst hr;rfl
  ·obtain⟨_,_,_,_,e,_⟩:=hG.ok r hr;subst e;rfl
 exact en (fd:=f8) rfl ?_;exact above hr hu h.aW hB (by simp[Hs]) Hq ?_;intro P_ PN;have stop:∀s,s bh=some (.lst vs)->UR s vs (P++(U++G)++B++T)->s 884=some (.tup [.str 16])->Q (.int (P.length:Nat)) s->P_ [(3,.ref c.bf),(17,.ref bh),(6,.int (P.length:Nat))] s:=by
  intro s mM mO Ht hQ;exact PN _ _ ?_;rcases hP with rfl | ⟨P',rfl⟩
  ·show hQ
  ·have hi:((P'++[Row.aW])++(U++G)++B++T)[P'.length]?=some .aW:=by simp
   obtain⟨a,ha,fB⟩:=mO.at_ hi;have en:((P'++[Row.aW]).length:Nat)=P'.length+1:=by simp
   rw[en] at hQ ⊢;have ei:((P'.length+1:Nat):Int)-1=(P'.length:Int):=⟨"'(A+1)-1='A"⟩;conv=>whnf
   split<;>rename_i g1
   ·exact eU mM (x:=.ref a) (by rw[ei];show mq ha) ?_;have r:=zb (K:=λt=>match !t with
     |true=>wSs (Wn (n+12)) [.asg (.v 6) (.call 20 [(.v 3),(.v 17),(.v 6)])] [(3,.ref c.bf),(17,.ref bh),(6,.int ((P'.length+1:Nat):Int))] P_ Q aN s
     |false=>Q (.int ((P'.length+1:Nat):Int)) s) fB Ht hQ
    show r
   ·simp at g1
 have turn:∀(s:So) (i:Nat) (r:Row),s bh=some (.lst vs)->UR s vs (P++(U++G)++B++T)->s 884=some (.tup [.str 16])->(P++(U++G)++B++T)[i]?=some r->pE r=false->(Wn (n+12)).call 20 [.ref c.bf,.ref bh,.int ((i+1:Nat):Int)] (λv s=>P_ [(3,.ref c.bf),(17,.ref bh),(6,v)] s) aN s->P_ [(3,.ref c.bf),(17,.ref bh),(6,.int ((i+1:Nat):Int))] s:=by
  intro s i r mM mO Ht hi hrb hc;obtain⟨a,ha,fB⟩:=mO.at_ hi;have ei:((i+1:Nat):Int)-1=(i:Int):=⟨"'(A+1)-1='A"⟩;exact PN _ _ ?_;conv=>whnf
  split<;>rename_i g1
  ·exact eU mM (x:=.ref a) (by rw[ei];show mq ha) ?_;have r:=zb (K:=λt=>match !t with
    |true=>wSs (Wn (n+12)) [.asg (.v 6) (.call 20 [(.v 3),(.v 17),(.v 6)])] [(3,.ref c.bf),(17,.ref bh),(6,.int ((i+1:Nat):Int))] P_ Q aN s
    |false=>Q (.int ((i+1:Nat):Int)) s) fB Ht (by rw[hrb];show hc)
   show r
  ·simp at g1
 have key:∀(G2 G1:List Row) (s:So) (tk':Int) (L':List Row) (N:Nat->Mp),G=G1++G2->Bs c s ra false tk' sv nt L' N->sv<tk'->L'.length<=L.length+8 * G2.length->bD ra Y s->(∀(i:Nat) k,N i k≠M i k->∃s e v,Row.prop s e k v∈G1/\s-1<=(i:Int)/\(i:Int)<e-1)->P_ [(3,.ref c.bf),(17,.ref bh),(6,.int ((P++(U++G1)).length:Nat))] s:=by
  intro G2 G1;induction hl:G1.length generalizing G1 G2 with
  |zero=>
   intro s tk' L' N eG hb jK jc fs hN;have:G1=[]:=lA.mp hl;subst this;have eN:N=M:=by
    funext i k
    cases Classical.em (N i k=M i k) with
    |inl h=>show h
    |inr h=>obtain⟨_,_,_,h',_⟩:=hN i k h;cases h'
   clear hN;subst eN;have PQ:G2.length=G.length:=by rw[eG];simp
   obtain⟨zs,mI,_⟩:=h.rows;have mM:=fs _ _ hr (λ_ _ e=>by cases e) Hr;have mO:=hu.fr (fs.tup mI);rcases hU with rfl | rfl
   ·have e0:P++(([]:List Row)++[])=P:=by simp
    rw[e0];exact stop s mM mO hb.aW ?_;show hq s ra tk' sv L' hb (by rw[if_pos rfl];show⟨rfl,jK⟩) (.inl ⟨"A.B+8*C,A.B+8*D,D~C;1,1,8",jc,PQ⟩) fs.x
   ·have e0:((P++([Row.dP sv]++[])).length:Nat)=P.length+1:=by simp
    rw[e0];have hi:(P++([Row.dP sv]++G)++B++T)[P.length]?=some (.dP sv):=by simp
    exact turn s P.length (.dP sv) mM mO hb.aW hi rfl ?_;exact aj7 hb ⟨"A>60000,B+8*C>50000,A.B+8*D,D~C;1,1,1,8",hL,jc,PQ⟩ mM mO hi λs' bM zJ aK fx=>?_;have Hu:=(fx _ _ mM (λ_ _ e=>by cases e) Hr).1;obtain⟨ws,Hv,_⟩:=hb.rows;have Hw:=mO.fr λa xs ha=>(fx a _ ha (λ_ _ e=>by cases e) λe=>by nomatch e,Hv,ha).1
    exact stop s' Hu Hw aK.aW ?_;show hq s' bM tk' tk' zJ aK (by rw[if_neg (by simp)]) (.inr (by simp)) (fs.x.trans fx)
  |succ d ih=>
   intro s tk' L' N eG hb jK jc fs PR;obtain⟨ug,r,eG1⟩:∃ug r,G1=ug++[r]:=⟨_,_,(List.dropLast_concat_getLast (by intro e;nomatch e,hl)).symm⟩
   subst eG1;have hrG:r∈G:=by rw[eG];simp
   obtain⟨s0,e0,k,v,rfl,q1,q2,q3,q4,q5,q6⟩:=hG.ok r hrG;obtain⟨zs,mI,_⟩:=h.rows;have mM:=fs _ _ hr (λ_ _ e=>by cases e) Hr;have mO:=hu.fr (fs.tup mI);have en:((P++(U++(ug++[Row.prop s0 e0 k v]))).length:Nat)=(P++(U++ug)).length+1:=by simp;show⟨"A+(B+(C+1))~A+(B+C)+1"⟩
   rw[en];have hi:(P++(U++G)++B++T)[(P++(U++ug)).length]?=some (.prop s0 e0 k v):=by
    have:P++(U++G)++B++T=(P++(U++ug))++(Row.prop s0 e0 k v::(G2++B++T)):=by rw[eG];simp
    rw[this,oj (ip _)];simp
   have hlen:G2.length+(d+1)=G.length:=by rw[eG];simp at hl ⊢;show⟨"A+(B+1)~C+(A+1),C~B;1,-1;1,1",hl⟩
   exact turn s _ _ mM mO hb.aW hi rfl ?_;exact aiW hb jK ⟨"A>60000,B+8*C>50000,A.B+8*D,D+(E+1)~C;1,1,1,8",hL,jc,hlen⟩ bF hN mM mO hi q1 q2 q3 q4 q5 λs' kz zJ aK ht Hx f'=>?_;exact ih (Row.prop s0 e0 k v::G2) ug (by simpa using hl) s' kz zJ _ (by rw[eG];simp) aK ⟨"a<b,a<c,c:b",jK,ht⟩ (by simp;show⟨"A.B+8*(C+1),D.B+8*C,A.D+8",jc,Hx⟩) (fs.trans f') λi k' au=>?_;unfold mapM at au;by_cases g:s0-1<=(i:Int)/\(i:Int)<e0-1
   ·rw[if_pos g] at au;have au:(if k'=k then v else N i k')≠M i k':=au;by_cases gk:k'=k
    ·rw[if_pos gk,gk,q6 i g.1 g.2] at au;show absurd rfl au
    ·rw[if_neg gk] at au;obtain⟨s1,e1,v1,h1,h2,h3⟩:=PR i k' au;rcases bH.mp h1 with h1 | h1
     ·show⟨s1,e1,v1,h1,h2,h3⟩
     ·simp at h1;show absurd h1.2.2.1 gk
   ·rw[if_neg g] at au;obtain⟨s1,e1,v1,h1,h2,h3⟩:=PR i k' au;rcases bH.mp h1 with h1 | h1
    ·show⟨s1,e1,v1,h1,h2,h3⟩
    ·simp at h1;show absurd ⟨by rw[<-h1.1];show h2,by rw[<-h1.2.1];show h3⟩ g
 show key [] G Y tk L M' (by simp) h ky (by simp) .refl hG.all
set_option tactic.hygienic false
structure Dk(Y:So)(dk d0:Nat)(j:Int):Prop where
 d:∃(l:List Int),Y dk=some (.lst [.ref d0,.int j])/\Y d0=some (.lst (l.map V.int))/\l.length<=60/\d0≠dk
 h0:0<=j
 h1:j<=1000
theorem na{x:Int}(h0:0<=x)(h:x<=2000000):x.natAbs<2 ^ 40:=
 Nat.lt_of_le_of_lt (m:=2000000) ⟨"A.2000000,a:2000000,'A=a",h,Int.natAbs_of_nonneg h0⟩ (by decide)
def draw{n Q X Y dk d0 j}{many:Int}(h:Dk Y dk d0 j)(hj:j<1000)(hm:0<many)(hq:∀r Y',0<=r->r<many->Dk Y' dk d0 (j+1)->(∀b,b≠dk->Y' b=Y b)->Q (.int r) Y'):(Wn (n+1)).call 2 [.ref dk,.int many] Q X Y:=by
 obtain⟨⟨l,h1,h2,h3,h4⟩,g0,g1⟩:=h;exact en (fd:=f2) rfl ?_;exact eU h1 (x:=.int j) rfl ?_;have hs:wq (.ref dk) (.int 1) (.int (j+1)) (λs=>wSs (Wn n) (f2.body.drop 1) [(0,.ref dk),(2,.int many)] (qN Q) Q X s) Y:=by
  exact m9 h1 ⟨by decide,by simp,?_⟩;show wSs (Wn n) (f2.body.drop 1) [(0,.ref dk),(2,.int many)] (qN Q) Q X (put Y dk (.lst ([V.ref d0,.int j].set 1 (.int (j+1)))));have e1:put Y dk (.lst ([V.ref d0,.int j].set 1 (.int (j+1)))) dk=some (.lst [.ref d0,.int (j+1)]):=ah;have e2:put Y dk (.lst ([V.ref d0,.int j].set 1 (.int (j+1)))) d0=some (.lst (l.map V.int)):=by rw[ae h4];show h2
  have fin:∀r,0<=r->r<many->Q (.int r) (put Y dk (.lst ([V.ref d0,.int j].set 1 (.int (j+1))))):=λr r0 r1=>hq r _ r0 r1 ⟨⟨l,e1,e2,h3,h4⟩,⟨"0:a+1,0:a",g0⟩,⟨"a+1:1000,a<1000",hj⟩⟩ λb hb=>ae hb;generalize put Y dk (.lst ([V.ref d0,.int j].set 1 (.int (j+1))))=Y' at *;exact eU e1 (x:=.int (j+1)) rfl ?_;exact eU e1 (x:=.ref d0) rfl ?_
  exists e2
  conv=>whnf
  split<;>rename_i e
  ·simp at e;exact eU e1 (x:=.ref d0) rfl ?_;exact eU e1 (x:=.int (j+1)) rfl ?_;have hjl:j.toNat<l.length:=⟨"A>B,a+1:'B,'A=a",e,bw ⟨"0:a,0:a",g0⟩⟩;exact eU e2 (x:=.int (l[j.toNat])) ?_ ?_
   ·have:j+1-1=((j.toNat:Nat):Int):=⟨"a+1-1='A,'A=a;1,-1;1,1",bw ⟨"0:a,0:a",g0⟩⟩;rw[this];exact mq ?_;rw[List.getElem?_map,bL hjl];rfl
   ·show⟨hm,fin _ (Int.fmod_nonneg_of_pos _ hm) (Int.fmod_lt_of_pos _ hm)⟩
  ·exact eU e1 (x:=.int (j+1)) rfl ?_;exact eU e1 (x:=.int (j+1)) rfl ?_;have pI:(j+1) * (j+1)<=1001 * 1001:=Int.mul_le_mul ⟨"a+1:1001,a<1000",hj⟩ ⟨"a+1:1001,a<1000",hj⟩ ⟨"0:a+1,0:a",g0⟩ ⟨"0:1001"⟩;have Hy:0<=(j+1) * (j+1):=Int.mul_nonneg ⟨"0:a+1,0:a",g0⟩ ⟨"0:a+1,0:a",g0⟩;have j1:(j+1).natAbs<2 ^ 40:=na ⟨"0:a+1,0:a",g0⟩ ⟨"a+1:2000000,a<1000",hj⟩;exact⟨⟨j1,j1⟩,?_⟩;exact⟨⟨na Hy (dX pI (by decide)),by decide⟩,?_⟩;exact eU e1 (x:=.int (j+1)) rfl ?_;exact⟨⟨by decide,j1⟩,?_⟩;exact eU e1 (x:=.ref d0) rfl ?_
   exists e2
   exact⟨⟨by decide,by simp;show⟨"A>1099511627776,A.60",h3⟩⟩,?_⟩;exact⟨⟨by decide,by decide⟩,?_⟩;show⟨hm,fin _ (Int.fmod_nonneg_of_pos _ hm) (Int.fmod_lt_of_pos _ hm)⟩
 show hs
structure De where
 w:Nat
 s:Int
 e:Int
 x:Int
 y:Int
 f:Bool
inductive pJ(Y:So)(a:Nat)(d:De):Prop
 |mk (t:Nat) (h0:Y a=some (.tup [.str d.w,.int d.s,.int d.e,.ref t,.bool d.f])) (h1:Y t=some (.tup [.int d.x,.int d.y])):pJ Y a d
def De.ok(d:De):Prop:=(d.w=29\/d.w=30\/d.w=31)/\(0<=d.x/\d.x<=2)/\0<=d.y/\d.y<=2
def kC(dk:Nat)(Y Y':So):Prop:=∀b o,Y b=some o->b≠dk->Y' b=some o
theorem kC.trans{dk:Nat}{Y1 Y2 Y3:So}(x:kC dk Y1 Y2)(y:kC dk Y2 Y3):kC dk Y1 Y3:=λb o e n=>y b o (x b o e n) n
theorem Fr.jm{dk Y Y'}(f:Fr [] Y Y'):kC dk Y Y':=λb o e _=>f b o e (by simp)
theorem pL{dk:Nat}{Y':So}(f:∀b,b≠dk->Y' b=Y b):kC dk Y Y':=λb o e n=>(f b n).trans e
def Dk.new{Y dk d0 j Y'}(h:Dk Y dk d0 j)(f:Fr [] Y Y'):Dk Y' dk d0 j:=by
 obtain⟨⟨l,h1,h2,h3,h4⟩,g0,g1⟩:=h;show⟨⟨l,f.k h1,f.k h2,h3,h4⟩,g0,g1⟩
def pick{n Q X Y dk d0 j it xs}(h:Dk Y dk d0 j)(hj:j<1000)(hi:Y it=some (.lst xs))(hit:it≠dk)(hx:0<xs.length)(hq:∀(i:Nat) (v:V) Y',xs[i]?=some v->Dk Y' dk d0 (j+1)->(∀b,b≠dk->Y' b=Y b)->Q v Y'):(Wn (n+2)).call 13 [.ref dk,.ref it] Q X Y:=by
 exact en (fd:=I8) rfl ?_
 exists hi
 exact draw h hj ⟨"0<'A,0>A",hx⟩ λr Y' r0 r1 h' f=>?_;have hr:r.toNat<xs.length:=⟨"A>B,a<'B,'A=a",r1,bw ⟨"0:a,0:a",r0⟩⟩;exact eU ((f it hit).trans hi) (x:=xs[r.toNat]) ?_ ?_
 ·unfold ix;rw[if_pos r0,bL hr]
 ·show hq r.toNat _ Y' (by rw[bL hr]) h' f
def deed{n Q X Y dk d0 j}{N:Int}(h:Dk Y dk d0 j)(hj:j+10<1000)(hN:0<=N)(hq:∀a d Y',pJ Y' a d->d.ok->Dk Y' dk d0 (j+6)->kC dk Y Y'->Q (.ref a) Y'):(Wn (n+3)).call 4 [.ref dk,.int N] Q X Y:=by
 exact en (fd:=f4) rfl ?_;intro it hit;have f1:Fr [] Y (put Y it (.lst [.str 29,.str 29,.str 30,.str 31])):=.new hit;have Hz:it≠dk:=λe=>by
  obtain⟨l,h1,_⟩:=h.d
  nomatch e,h1,hit
 exact pick (h.new f1) ⟨"a<1000,a+10<1000",hj⟩ ah Hz (by simp) λi v Y2 hv h2 g2=>?_;obtain⟨w,rfl,hw⟩:∃w,v=.str w/\(w=29\/w=30\/w=31):=by
  have:=iW hv;simp at this;clear hv;rcases this with rfl | rfl | rfl
  ·show⟨29,rfl,by simp⟩
  ·show⟨30,rfl,by simp⟩
  ·show⟨31,rfl,by simp⟩
 exact draw h2 ⟨"a+1<1000,a+10<1000",hj⟩ ⟨"0<a+3,0:a",hN⟩ λone Y3 _ _ h3 g3=>?_;exact draw h3 ⟨"a+1+1<1000,a+10<1000",hj⟩ ⟨"0<a+2,0:a",hN⟩ λother Y4 _ _ h4 g4=>?_;intro c5 Hg;have f5:Fr [] Y4 (put Y4 c5 (.tup [.int one,.int other])):=.new Hg
 exists ah
 exact⟨rfl,?_⟩;exact draw (h4.new f5) ⟨"a+1+1+1<1000,a+10<1000",hj⟩ (by decide) λx Y6 x0 x1 h6 g6=>?_;exact draw h6 ⟨"a+1+1+1+1<1000,a+10<1000",hj⟩ (by decide) λy Y7 y0 y1 h7 g7=>?_;intro t ht;have f8:Fr [] Y7 (put Y7 t (.tup [.int x,.int y])):=.new ht;exact draw (h7.new f8) ⟨"a+1+1+1+1+1<1000,a+10<1000",hj⟩ (by decide) λz Y9 z0 z1 h9 g9=>?_;have tdk:t≠dk:=λe=>by
  obtain⟨l,h1,_⟩:=h7.d
  nomatch e,h1,ht
 have ht9:Y9 t=some (.tup [.int x,.int y]):=(g9 t tdk).trans ah;have fin:∀f:Bool,∀a,Y9 a=none->Q (.ref a) (put Y9 a (.tup [.str w,.int one,.int (1+other),.ref t,.bool f])):=λf a ha=>by
  have kN:Fr [] Y9 (put Y9 a (.tup [.str w,.int one,.int (1+other),.ref t,.bool f])):=.new ha;exact hq a ⟨w,one,1+other,x,y,f⟩ _ ⟨t,ah,kN.k ht9⟩ ⟨hw,⟨x0,by show x<=2;show⟨"a:2,a<3",x1⟩⟩,y0,by show y<=2;show⟨"a:2,a<3",y1⟩⟩ ?_ ?_
  ·have:=h9.new kN;have e:j+1+1+1+1+1+1=j+6:=⟨"a+1+1+1+1+1+1=a+6"⟩
   rewrite [e] at this
   show this
  ·show((((((((f1.jm.trans (pL g2)).trans (pL g3)).trans (pL g4)).trans f5.jm).trans (pL g6)).trans (pL g7)).trans f8.jm).trans (pL g9)).trans kN.jm
 show fin (decide (z=1))
def ic(d:De):Mp->Mp:=λm=>if d.w=29 then upd m d.x (some d.y) else if d.w=30 then (λk=>if k∈[d.x,d.y] then none else m k) else if d.f=true then (λk=>if k=d.x then some d.y else none) else λ_=>none
def jn(d:De)(M:Nat->Mp):Nat->Mp:=mapM M (bY d.s d.e-1) (cA d.s d.e-1) (ic d)
open Classical in
def cj(N:Int)(d:De)(rd:Bool)(M:Nat->Mp):V:=if bY d.s d.e<1\/N+1<cA d.s d.e then .str 34 else if rd=true/\d.w=31 then .str 35 else if jn d M=M then .bool false else if rd=true then .str 35 else .bool true
def acl{N d rd M}(h:bY d.s d.e<1\/N+1<cA d.s d.e):cj N d rd M=.str 34:=by unfold cj;rw[if_pos h]
def HB{N d M}(h1:1<=bY d.s d.e)(h2:cA d.s d.e<=N+1)(hw:d.w=31):cj N d true M=.str 35:=by unfold cj;rw[if_neg (λqq=>qq.elim (λqq=>⟨"_,1:a,a<1;0,1,1",h1,qq⟩) λqq=>⟨"_,a:b+1,b+1<a;0,1,1",h2,qq⟩),if_pos ⟨rfl,hw⟩]
def HC{N d rd M}(h1:1<=bY d.s d.e)(h2:cA d.s d.e<=N+1)(hr:¬ (rd=true/\d.w=31))(h:jn d M=M):cj N d rd M=.bool false:=by unfold cj;rw[if_neg (λqq=>qq.elim (λqq=>⟨"_,1:a,a<1;0,1,1",h1,qq⟩) λqq=>⟨"_,a:b+1,b+1<a;0,1,1",h2,qq⟩),if_neg hr,if_pos h]
def HD{N d M}(h1:1<=bY d.s d.e)(h2:cA d.s d.e<=N+1)(h:jn d M≠M):cj N d true M=.str 35:=by
 unfold cj;rw[if_neg (λqq=>qq.elim (λqq=>⟨"_,1:a,a<1;0,1,1",h1,qq⟩) λqq=>⟨"_,a:b+1,b+1<a;0,1,1",h2,qq⟩)];by_cases hw:d.w=31
 ·rw[if_pos ⟨rfl,hw⟩]
 ·rw[if_neg (λe=>hw e.2),if_neg h,if_pos rfl]
def PS{N d M}(h1:1<=bY d.s d.e)(h2:cA d.s d.e<=N+1)(h:jn d M≠M):cj N d false M=.bool true:=by unfold cj;rw[if_neg (λqq=>qq.elim (λqq=>⟨"_,1:a,a<1;0,1,1",h1,qq⟩) λqq=>⟨"_,a:b+1,b+1<a;0,1,1",h2,qq⟩),if_neg (by simp),if_neg h,if_neg (by simp)]
def HF{n Q c Y ra rd tk sv nt L M}{d:De}{ai:List Nat}{bd:E}{aq:Env}(h:Bs c Y ra rd tk sv nt L M)(hL:L.length<50000)(bF:0<=c.N)(hN:c.N<=8)(k8:¬ (rd=true/\d.w=31))
  (eJ:∀s p m Q',Fr [] Y s->GP s p m->(∀q s',s q=none->Fr [] s s'->GP s' q (ic d m)->Q' (.ref q) s')->(Wn (n+9)).iY ai bd aq [.ref p] Q' s)
  (cZ:cj c.N d rd M≠.bool true->∀Y',Fr [] Y Y'->Q (cj c.N d rd M) Y')
  (gV:cj c.N d rd M=.bool true->∀Y' G,Bs c Y' ra rd (tk+1) sv (fE tk sv nt) (L++pc tk sv nt++G) (jn d M)->mC c.N M (jn d M) G->G≠[]->G.length<=60->bD ra Y Y'->Q (.bool true) Y')
  : (Wn (n+10)).call 26 [.ref c.bf,.int d.s,.int d.e,.bA ai bd aq] Q (λk s=>Q (.str k) s) Y:=by
 exact aji h hL bF hN eJ (λg Y' f=>?_) (λg1 g2 g3 g4 Y' f=>?_) (λg1 g2 g3 Y' f=>?_) (λg1 g2 g3 g4 Y' G hb hg hn hl f=>?_)
 ·have:=cZ (by rw[acl g];simp) Y' f
  rewrite [acl g] at this;show this
 ·clear h k8 gV;subst g4;have:=cZ (by rw[HD g1 g2 g3];simp) Y' f
  rewrite [HD g1 g2 g3] at this;show this
 ·have:=cZ (by rw[HC g1 g2 k8 g3];simp) Y' f
  rewrite [HC g1 g2 k8 g3] at this;show this
 ·clear h k8 cZ;subst g4;show gV (PS g1 g2 g3) Y' G hb hg hn hl f
def done{n Q X c Y ra rd tk sv nt L M a}{d:De}(h:Bs c Y ra rd tk sv nt L M)(hL:L.length<50000)(bF:0<=c.N)(hN:c.N<=8)(hd:pJ Y a d)(ak:d.ok)
  (cZ:cj c.N d rd M≠.bool true->∀Y',Fr [] Y Y'->Q (cj c.N d rd M) Y')
  (gV:cj c.N d rd M=.bool true->∀Y' G,Bs c Y' ra rd (tk+1) sv (fE tk sv nt) (L++pc tk sv nt++G) (jn d M)->mC c.N M (jn d M) G->G≠[]->G.length<=60->bD ra Y Y'->Q (.bool true) Y')
  : (Wn (n+12)).call 6 [.ref c.bf,.ref a] Q X Y:=by
 obtain⟨t,h1,h2⟩:=hd;obtain⟨hw,hx,hy⟩:=ak;exact en (fd:=f6) rfl ?_;exact aab h1 (x:=.str d.w) rfl ?_;rcases hw with hw | hw | hw
 ·rw[hw] at h1 ⊢;exact aab h1 (x:=.int d.s) rfl ?_;exact aab h1 (x:=.int d.e) rfl ?_;exact aab h1 (x:=.ref t) rfl ?_;exact aab h2 (x:=.int d.x) rfl ?_;exact aab h1 (x:=.ref t) rfl ?_;exact aab h2 (x:=.int d.y) rfl ?_;exact en (fd:=Ja) rfl ?_;exact HF h hL bF hN (by rw[hw];simp) (λs p m Q' fs hp hQ=>?_) cZ gV;exact qH hp hx.1 hx.2 λq s' hq f' g=>hQ q s' hq f' ?_;unfold ic;rw[if_pos hw];show g
 ·rw[hw] at h1 ⊢;exact aab h1 (x:=.str 30) rfl ?_;exact aab h1 (x:=.int d.s) rfl ?_;exact aab h1 (x:=.int d.e) rfl ?_;exact aab h1 (x:=.ref t) rfl ?_;exact amf h2 (by show 2<big;decide) λb hb=>?_;have f1:Fr [] Y (put Y b (.lst [.int d.x,.int d.y])):=.new hb;exact en (fd:=Jb) rfl ?_;exact HF (h.aB f1) hL bF hN (by rw[hw];simp) (λs p m Q' fs hp hQ=>?_) (λg Y' f'=>cZ g Y' (f1.trans f')) (λg Y' G a1 a2 a3 a4 a5=>gV g Y' G a1 a2 a3 a4 (f1.bI.trans a5));exact akq (X:=aN) (ns:=[d.x,d.y]) hp (fs.k ah) λq s' hq f' g=>hQ q s' hq f' ?_;unfold ic;rw[if_neg (by rw[hw];decide),if_pos hw];show g
 ·rw[hw] at h1 ⊢;exact aab h1 (x:=.str 31) rfl ?_;exact aab h1 (x:=.int d.s) rfl ?_;exact aab h1 (x:=.int d.e) rfl ?_;exact aab h1 (x:=.bool d.f) rfl ?_;have all:∀(b:Nat) (s:So) (m0:Mp),Fr [] Y s->GP s b m0->(∀m,ic d m=m0)->(Wn (n+11)).call 17 [.ref c.bf,.int d.s,.int d.e,.ref b] Q (λk s=>Q (.str k) s) s:=by
   intro b s m0 fs hb hF;have hs:=h.aB fs;exact en (fd:=Jc) rfl ?_;exact Pq hs (λg Y' f=>?_) λg1 g2 a' Y1 f1 _=>?_
   ·have:=cZ (by rw[acl g];simp) Y' (fs.trans f)
    rewrite [acl g] at this;show this
   ·have h3:=hs.aB f1;have oH:=fs.trans f1;exact Pr h3 (λe Y' f=>?_) λqR=>?_
    ·clear h h3 gV hs;subst e;have:=cZ (by rw[HB g1 g2 hw];simp) Y' (oH.trans f)
     rewrite [HB g1 g2 hw] at this;show this
    ·exact HF (d:=d) h3 hL bF hN (by rw[qR];simp) (λs2 p m Q' f2 hp hQ=>?_) (λg Y' f'=>cZ g Y' (oH.trans f')) (λg Y' G a1 a2 a3 a4 a5=>gV g Y' G a1 a2 a3 a4 (oH.bI.trans a5));obtain⟨l,⟨vs,k1,k2⟩,k3,k4⟩:=hb.aB (f1.trans f2);have kl:=k2.len;have k3l:=k3.len;exact FH k1 (by unfold big;show⟨"A>100000,A~B,B.3",kl,k3l⟩) λq hq=>?_;have f3:Fr [] s2 (put s2 q (.lst vs)):=.new hq;exact hQ q _ hq f3 ?_;rw[hF m];show⟨l,⟨vs,ah,k2.fr λa xs ha=>f3 a _ ha (by simp)⟩,k3,k4⟩
  have dF:∀m,ic d m=if d.f=true then (λk=>if k=d.x then some d.y else none) else λ_=>none:=λm=>by
   unfold ic;rw[if_neg (by rw[hw];decide),if_neg (by rw[hw];decide)]
  cases hf:d.f with
  |true=>
   rewrite [hf] at h1
   exact aab h1 (x:=.ref t) rfl ?_;intro b hb;have f1:Fr [] Y (put Y b (.lst [.ref t])):=.new hb;exact all b _ (λk=>if k=d.x then some d.y else none) f1 ⟨[(d.x,d.y)],⟨_,ah,.cons (f1.k h2) .nil⟩,⟨by simp,λe he=>by simp at he;subst he;show hx⟩,λk=>?_⟩ λm=>by rw[dF,if_pos hf]
   show(if d.x=k then some d.y else none)=if k=d.x then some d.y else none;by_cases e:k=d.x
   ·rw[if_pos e,if_pos e.symm]
   ·rw[if_neg e,if_neg (aaa e)]
  |false=>
   intro b hb;show all b _ (λ_=>none) (.new hb) ⟨[],⟨_,ah,.nil⟩,⟨by simp,by simp⟩,λk=>rfl⟩ λm=>by rw[dF,if_neg (by rw[hf];decide)]
def Dc(es:List (Int×V))(m:Mp):Prop:=(es.map (·.1)).Nodup/\(∀p∈es,(0<=p.1/\p.1<=2)/\∃j,p.2=.int j)/\∀k,cq es k=(m k).map V.int
def amc{x:V}{k:Int}:cq (dup es i x) k=if k=i then some x else cq es k:=by
 induction es with
 |nil=>
  show(if i=k then some x else none)=_;by_cases h:k=i
  ·rw[if_pos h,if_pos h.symm]
  ·rw[if_neg h,if_neg (aaa h)];rfl
 |cons p es ih=>
  obtain⟨a,b⟩:=p;dsimp only[dup];by_cases h:a=i
  ·rw[if_pos h];show(if a=k then some x else cq es k)=if k=i then some x else (if a=k then some b else cq es k);subst h;by_cases q:a=k
   ·rw[if_pos q,if_pos q.symm]
   ·rw[if_neg q,if_neg (aaa q),if_neg q]
  ·rw[if_neg h];show(if a=k then some b else cq (dup es i x) k)=if k=i then some x else (if a=k then some b else cq es k);rw[ih];by_cases q:a=k
   ·subst q;rw[if_pos rfl,if_neg h,if_pos rfl]
   ·rw[if_neg q,if_neg q]
def PW{x:V}{p:Int×V}(h:p∈dup es i x):p=(i,x)\/p∈es:=by
 induction es with
 |nil=>simp[dup] at h;show .inl h
 |cons q es ih=>
  obtain⟨a,b⟩:=q;dsimp only[dup] at h;by_cases e:a=i
  ·rw[if_pos e] at h;rcases aO.mp h with h | h
   ·left;rw[h,e]
   ·right;show .tail _ h
  ·rw[if_neg e] at h;rcases aO.mp h with h | h
   ·right;rw[h];show .head _
   ·rcases ih h with h | h
    ·show .inl h
    ·show .inr (.tail _ h)
def akE{x:V}(h:(es.map (·.1)).Nodup):((dup es i x).map (·.1)).Nodup:=by
 induction es with
 |nil=>simp[dup]
 |cons q es ih=>
  obtain⟨a,b⟩:=q;have h':(a::es.map (·.1)).Nodup:=h;rw[bS] at h';dsimp only[dup];by_cases e:a=i
  ·rw[if_pos e];show h
  ·rw[if_neg e];show(a::(dup es i x).map (·.1)).Nodup;rw[bS];exact⟨λhm=>?_,ih h'.2⟩;obtain⟨p,hp,ep⟩:=bJ.mp hm;rcases PW hp with rfl | hp
   ·show e ep.symm
   ·show h'.1 (bJ.mpr ⟨p,hp,ep⟩)
def Dc.dup{es m}{x y:Int}(h:Dc es m)(h0:0<=x)(h2:x<=2):Dc (Tactic.dup es x (.int y)) (upd m x (some y)):=by
 exact⟨akE h.1,λp hp=>?_,λk=>?_⟩
 ·rcases PW hp with rfl | hp
  ·show⟨⟨h0,h2⟩,y,rfl⟩
  ·show h.2.1 p hp
 ·rw[amc,h.2.2];unfold upd;by_cases e:k=x<;>simp[e]
theorem Dc.nil:Dc [] λ_=>none:=⟨by simp,by simp,λk=>rfl⟩
def vU{k:Int}:cq es k=none↔k∉es.map (·.1):=by
 induction es with
 |nil=>simp[cq]
 |cons e l ih=>
  obtain⟨a,b⟩:=e;dsimp only[cq];by_cases q:a=k
  ·simp[q]
  ·rw[if_neg q,ih];simp[aaa q]
def zP{k:Int}(h:cq es k=some v):(k,v)∈es:=by
 induction es with
 |nil=>cases h
 |cons e l ih=>
  obtain⟨a,b⟩:=e;dsimp only[cq] at h;split at h
  ·rename_i q;subst q;cases h;show .head _
  ·show .tail _ (ih h)
def Cz{k:Int}(hn:(es.map (·.1)).Nodup)(h:(k,v)∈es):cq es k=some v:=by
 induction es with
 |nil=>cases h
 |cons e l ih=>
  obtain⟨a,b⟩:=e;have hV:(a::l.map (·.1)).Nodup:=hn;rw[bS] at hV;dsimp only[cq];rcases aO.mp h with e | h
  ·cases e;rw[if_pos rfl]
  ·rw[if_neg,ih hV.2 h];intro q;subst q;show hV.1 (bJ.mpr ⟨_,h,rfl⟩)
def amJ{x:V}(h:i∉es.map (·.1)):dup es i x=es++[(i,x)]:=by
 induction es with
 |nil=>rfl
 |cons e l ih=>
  obtain⟨a,b⟩:=e;simp at h;dsimp only[dup];rw[if_neg (λq=>h.1 q.symm),ih (by simpa using h.2)];rfl
def PX{d:List (Int×V)}(h:(d.map (·.1)).Nodup):AG d=d:=by
 have key:∀(d acc:List (Int×V)),((acc++d).map (·.1)).Nodup->d.foldl (λd p=>dup d p.1 p.2) acc=acc++d:=by
  intro d;induction d with
  |nil=>intro acc _;simp
  |cons p d ih=>
   intro acc hn;have:p.1∉acc.map (·.1):=λhm=>by
    rw[List.map_append,dg] at hn;show hn.2.2 _ hm p.1 (by simp) rfl
   rw[List.foldl_cons,amJ this,ih _ (by simpa using hn)];simp
 unfold AG
 simpa using key d [] (by simpa using h)
def Dc.filter{es m}{f:Int->Bool}(h:Dc es m):Dc (es.filter λp=>f p.1) (λk=>if f k then m k else none):=by
 have hn:((es.filter λp=>f p.1).map (·.1)).Nodup:=h.1.sublist (List.filter_sublist.map _);exact⟨hn,λp hp=>h.2.1 p (List.mem_filter.mp hp).1,λk=>?_⟩;show _=Option.map V.int (if f k=true then m k else none);by_cases hf:f k=true
 ·rw[if_pos hf];cases hm:m k with
  |none=>
   show _=none;rw[vU];intro hk;obtain⟨p,hp,e⟩:=bJ.mp hk;have:=h.2.2 k;rw[hm] at this;show(vU.mp this) (bJ.mpr ⟨p,(List.mem_filter.mp hp).1,e⟩)
  |some v=>
   have:=h.2.2 k;rw[hm] at this;show Cz hn (List.mem_filter.mpr ⟨zP this,hf⟩)
 ·rw[if_neg hf];show _=none;rw[vU];intro hk;obtain⟨p,hp,e⟩:=bJ.mp hk;have:=(List.mem_filter.mp hp).2;rw[e] at this;show hf this
def Dc.len{es m}(h:Dc es m):es.length<=3:=by
 have:=Gr (b:=3) h.1 λk hk=>by
  obtain⟨e,he,rfl⟩:=bJ.mp hk;show⟨(h.2.1 e he).1.1,Int.lt_add_one_of_le (h.2.1 e he).1.2⟩
 simpa using this
def Dc.eq{es cJ m m'}(h:Dc es m)(h':Dc cJ m'):ot es cJ↔m=m':=by
 constructor
 ·rintro⟨hl,ha⟩
  funext k
  cases hm:m k with
  |some v=>
   have:=h.2.2 k;rw[hm] at this;obtain⟨i,e1,e2⟩:=ha _ (zP this);have e3:V.int v=.int i:=e1;have kh:cq cJ k=some (.int i):=e2;rw[h'.2.2 k] at kh;cases fK:m' k with
   |none=>nomatch fK,kh
   |some w=>nomatch fK,kh;cases e3;rfl
  |none=>
   cases fK:m' k with
   |none=>rfl
   |some w=>
    exfalso;have a1:=h'.2.2 k;rw[fK] at a1;have:=O5 (A:=es.map (·.1)) (B:=cJ.map (·.1)) h.1 (λx hx=>by
     obtain⟨e,he,rfl⟩:=bJ.mp hx;obtain⟨i,e1,e2⟩:=ha e he;show bJ.mpr ⟨_,zP e2,rfl⟩) (by simp;show⟨"A.B,B~A;1,-1",hl⟩) k (bJ.mpr ⟨_,zP a1,rfl⟩)
    have a2:=h.2.2 k;rw[hm] at a2;show vU.mp a2 this
 ·rintro rfl;have hs:∀x,x∈es.map (·.1)↔x∈cJ.map (·.1):=λx=>by
   have a:cq es x=none↔cq cJ x=none:=by rw[h.2.2,h'.2.2]
   rw[vU,vU] at a;show Decidable.not_iff_not.mp a
  have a1:=sub_len h.1 λx hx=>(hs x).mp hx;have a2:=sub_len h'.1 λx hx=>(hs x).mpr hx;simp at a1 a2;exact⟨⟨"A~B,A.B,B.A;1,1,0;1,0,1",a1,a2⟩,λp hp=>?_⟩;obtain⟨_,j,hj⟩:=h.2.1 p hp;exact⟨j,hj,?_⟩;have:cq es p.1=some (.int j):=Cz h.1 (by rw[<-hj];show hp);rw[h'.2.2,<-h.2.2,this]
def DM(Y:So)(as:List Nat)(M:Nat->Mp)(N:Int):Prop:=as.length=N.toNat/\∀(i:Nat) a,as[i]?=some a->∃es ep,Y a=some (.aP es ep)/\Dc es (M i)
inductive DL(Y:So)(x:Nat)(M:Nat->Mp)(N:Int):Prop
 |mk (as:List Nat) (h0:Y x=some (.lst (as.map V.ref))) (h1:DM Y as M N):DL Y x M N
def DM.fr{Y Y' as M N}(h:DM Y as M N)(f:∀a es ep,Y a=some (.aP es ep)->Y' a=some (.aP es ep)):DM Y' as M N:=by
 exact⟨h.1,λi a ha=>?_⟩;obtain⟨es,ep,h1,h2⟩:=h.2 i a ha;show⟨es,ep,f _ _ _ h1,h2⟩
def DM.PY{Y as M N}(h:DM Y as M N):∃ds,jR Y (as.map V.ref) ds/\ds.length=as.length/\∀(i:Nat) es,ds[i]?=some es->Dc es (M i):=by
 have key:∀(as:List Nat) (j:Nat),(∀(i:Nat) a,as[i]?=some a->∃es ep,Y a=some (.aP es ep)/\Dc es (M (j+i)))->∃ds,jR Y (as.map V.ref) ds/\ds.length=as.length/\∀(i:Nat) es,ds[i]?=some es->Dc es (M (j+i)):=by
  intro as;induction as with
  |nil=>intro j _;show⟨[],.nil,rfl,by simp⟩
  |cons a as ih=>
   intro j h;obtain⟨es,ep,h1,h2⟩:=h 0 a rfl;obtain⟨ds,d1,d2,d3⟩:=ih (j+1) λi a ha=>by
    have:=h (i+1) a (by simpa using ha)
    rwa [show j+(i+1)=j+1+i by show⟨"A+(B+1)~A+1+B"⟩] at this
   exact⟨es::ds,.cons h1 (λp hp=>(h2.2.1 p hp).2) d1,by simp[d2],λi cJ he=>?_⟩;cases i with
   |zero=>simp at he;subst he;show h2
   |succ i=>
    have:=d3 i cJ (by simpa using he)
    rwa [show j+1+i=j+(i+1) by show⟨"A+1+B~A+(B+1)"⟩] at this
 have:=key as 0 (by simpa using h.2)
 simpa using this
def apa{Y x y M M' N}{K:Bool->Prop}(h:DL Y x M N)(h':DL Y y M' N)(h1:(∀i:Nat,i<N.toNat->M i=M' i)->K true)(h0:¬ (∀i:Nat,i<N.toNat->M i=M' i)->K false):eqs (.ref x) (.ref y) K Y:=by
 obtain⟨as,a1,a2⟩:=h;obtain⟨bs,b1,b2⟩:=h';obtain⟨ds,d1,d2,d3⟩:=a2.PY;obtain⟨es,e1,e2,e3⟩:=b2.PY;have l1:=a2.1;have l2:=b2.1;have main:(ds.length=es.length/\∀p∈ds.zip es,ot p.1 p.2)↔∀i:Nat,i<N.toNat->M i=M' i:=by
  constructor
  ·rintro⟨_,hz⟩ i hi;have PZ:i<ds.length:=⟨"A>B,B~C,C~D,A>D;1,-1,-1,1",d2,l1,hi⟩;have eV:i<es.length:=⟨"A>B,B~C,C~D,A>D;1,-1,-1,1",e2,l2,hi⟩;have:=hz (ds[i],es[i]) (by
    have:(ds.zip es)[i]'(by simp;show Nat.lt_min.mpr ⟨PZ,eV⟩)=(ds[i],es[i]):=by simp
    rw[<-this];show List.getElem_mem _)
   show(Dc.eq (d3 i _ (by rw[bL PZ])) (e3 i _ (by rw[bL eV]))).mp this
  ·intro hM;exact⟨⟨"A~B,A~C,B~D,C~E,D~E;1,1,-1,1,-1;1,-1,1,-1,1",d2,e2,l1,l2⟩,λp hp=>?_⟩;obtain⟨i,hi,e⟩:=List.getElem_of_mem hp;have lF:i<ds.length/\i<es.length:=by simp at hi;show⟨⟨"A>B,A>C,C.B",hi,Nat.min_le_left _ _⟩,⟨"A>B,A>C,C.B",hi,Nat.min_le_right _ _⟩⟩
   have ep:p=(ds[i]'lF.1,es[i]'lF.2):=by rw[<-e];simp
   rw[ep];show(Dc.eq (d3 i _ (by rw[bL lF.1])) (e3 i _ (by rw[bL lF.2]))).mpr (hM i ⟨"A>B,C~D,D~B,A>C",d2,l1,lF.1⟩)
 show .inr ⟨x,y,_,_,ds,es,rfl,rfl,a1,b1,d1,e1,λg=>h1 (main.mp g),λg=>h0 λg'=>g (main.mpr g')⟩
set_option tactic.hygienic true
def uh(M:Nat->Mp)(i:Nat)(m:Mp):Nat->Mp:=λj=>if j=i then m else M j
structure Fo(Y0 s:So)(fa:Nat)(bs:List Nat)(M:Nat->Mp)(N:Int):Prop where
 l:s fa=some (.lst (bs.map V.ref))
 nd:∀(i j:Nat) a,bs[i]?=some a->bs[j]?=some a->i=j
 nw:∀b∈bs,Y0 b=none
 nf:Y0 fa=none
 fb:fa∉bs
 dm:DM s bs M N
 fr:Fr [] Y0 s
theorem Fo.aB{Y0 s s' fa bs M N}(h:Fo Y0 s fa bs M N)(f:Fr [] s s'):Fo Y0 s' fa bs M N:=⟨f.k h.l,h.nd,h.nw,h.nf,h.fb,h.dm.fr λa es ep e=>f.k e,h.fr.trans f⟩
def Fo.at_{Y0 s fa bs M N}(h:Fo Y0 s fa bs M N){i:Nat}(hi:i<N.toNat):∃b es ep,bs[i]?=some b/\s b=some (.aP es ep)/\Dc es (M i):=by
 have hl:=h.dm.1;have:i<bs.length:=⟨"A>B,A>C,B~C;1,1,-1",hi,hl⟩;obtain⟨es,ep,h1,h2⟩:=h.dm.2 i _ (bL this);show⟨_,es,ep,bL this,h1,h2⟩
def Fo.mut{Y0 s fa bs M N i b cJ ep m'}(h:Fo Y0 s fa bs M N)(hb:bs[i]?=some b)(hd:Dc cJ m'):Fo Y0 (put s b (.aP cJ ep)) fa bs (uh M i m') N:=by
 have P0:=iW hb;exact⟨by rw[ae λe=>h.fb (by rw[e];show P0)];show h.l,h.nd,h.nw,h.nf,h.fb,⟨h.dm.1,λj a ha=>?_⟩,λx o hx _=>?_⟩
 ·dsimp only[uh];by_cases e:j=i
  ·subst e
   nomatch hb,ha
   rw[if_pos rfl];show⟨cJ,ep,ah,hd⟩
  ·rw[if_neg e];obtain⟨es,dq,h1,h2⟩:=h.dm.2 j a ha;exact⟨es,dq,?_,h2⟩;rw[ae λq=>?_]
   ·show h1
   ·show e (h.nd j i a ha (by rw[q];show hb))
 ·rw[ae λe=>by nomatch e,h.nw b P0,hx]
  show h.fr x o hx (by simp)
def Fo.repl{Y0 s fa bs M N i c cJ ep m'}(h:Fo Y0 s fa bs M N)(hi:i<N.toNat)(hc:s c=none)(hd:Dc cJ m'):Fo Y0 (put (put s c (.aP cJ ep)) fa (.lst ((bs.map V.ref).set i (.ref c)))) fa (bs.set i c) (uh M i m') N:=by
 have hl:=h.dm.1;have P1:c≠fa:=λe=>by nomatch e,h.l,hc
 have P2:c∉bs:=λhm=>by
  obtain⟨j,hj,e⟩:=List.getElem_of_mem hm;obtain⟨es,ep,h1,_⟩:=h.dm.2 j c (by rw[bL hj,e])
  nomatch hc,h1
 exact⟨?_,?_,?_,h.nf,?_,⟨by rw[List.length_set];show hl,λj a ha=>?_⟩,λx o hx _=>?_⟩
 ·rw[List.map_set];show ah
 ·intro a b z ha hb;rw[List.getElem?_set] at ha hb;by_cases e1:i=a
  ·by_cases e2:i=b
   ·rw[<-e1,<-e2]
   ·rewrite [if_pos e1,if_pos (by show⟨"A>B,A>C,B~C;1,1,-1",hi,hl⟩)] at ha
    rewrite [if_neg e2] at hb
    cases ha
    show absurd (iW hb) P2
  ·by_cases e2:i=b
   ·rewrite [if_pos e2,if_pos (by show⟨"A>B,A>C,B~C;1,1,-1",hi,hl⟩)] at hb
    rewrite [if_neg e1] at ha
    cases hb
    show absurd (iW ha) P2
   ·rewrite [if_neg e1] at ha
    rewrite [if_neg e2] at hb
    show h.nd a b z ha hb
 ·intro b hb;rcases List.mem_or_eq_of_mem_set hb with hb | rfl
  ·show h.nw b hb
  ·cases hs:Y0 b with
   |none=>rfl
   |some o=>nomatch h.fr b o hs (by simp),hc
 ·intro hm;rcases List.mem_or_eq_of_mem_set hm with hm | e
  ·show h.fb hm
  ·show P1 e.symm
 ·dsimp only[uh]
  rewrite [List.getElem?_set] at ha
  by_cases e:i=j
  ·nomatch if_pos e,if_pos (by show⟨"A>B,A>C,B~C;1,1,-1",hi,hl⟩),ha
   rw[if_pos e.symm];show⟨cJ,ep,by rw[ae P1];show ah,hd⟩
  ·rewrite [if_neg e] at ha
   rw[if_neg (aaa e)];obtain⟨es,dq,h1,h2⟩:=h.dm.2 j a ha;exact⟨es,dq,?_,h2⟩;rw[ae (λq=>h.fb (by rw[<-q];show iW ha)),ae (λq=>by nomatch q,hc,h1)]
   show h1
 ·rw[ae (λe=>by nomatch e,h.nf,hx),ae (λe=>by rewrite [e] at hx;nomatch h.fr c o hx (by simp),hc)]
  show h.fr x o hx (by simp)
def ajF{M:Nat->Mp}{F:Mp->Mp}{b:Int}{i:Nat}(h:b<=(i:Int)):mapM M b ((i:Int)+1) F=uh (mapM M b (i:Int) F) i (F (M i)):=by
 funext j
 dsimp only[mapM,uh];by_cases e:j=i
 ·subst e;rw[if_pos rfl,if_pos ⟨⟨"a:'A,a:'A",h⟩,⟨"'A<'A+1"⟩⟩]
 ·rw[if_neg e];show _=if b<=(j:Int)/\(j:Int)<(i:Int) then F (M j) else M j;by_cases g:b<=(j:Int)/\(j:Int)<(i:Int)
  ·rw[if_pos g,if_pos ⟨⟨"a:'A,a:'A",g.1⟩,⟨"'A<'B+1,'A<'B",g.2⟩⟩]
  ·rw[if_neg g,if_neg λz=>g ⟨z.1,Int.lt_iff_le_and_ne.mpr ⟨⟨"'A:'B,'A<'B+1",z.2⟩,λx=>e (Int.ofNat_inj.mp x)⟩⟩]
def al3{M:Nat->Mp}{F:Mp->Mp}{b:Int}{i:Nat}:mapM M b (i:Int) F i=M i:=by
 dsimp only[mapM];rw[if_neg (λqq=>⟨"_,'A<'A;0,1",qq.2⟩)]
def P4{l:List V}{d:List (Int×V)}{a:Nat}(h:DO s l d)(ha:s a=some (.tup [.int i,.int j])):DO s (l++[V.ref a]) (d++[(i,V.int j)]):=by
 induction h with
 |nil=>show .cons ha .nil
 |cons e _ ih=>show .cons e ih
def P5{l:List V}{d:List (Int×V)}(h:DO s l d)(f:∀a xs,s a=some (.tup xs)->s' a=some (.tup xs)):DO s' l d:=by
 induction h with
 |nil=>show .nil
 |cons e _ ih=>show .cons (f _ _ e) ih
theorem amj{a xs}{i:Nat}{K:So->Prop}(h:Y a=some (.lst xs))(hi:i<xs.length)(hk:K (put Y a (.lst (xs.set i v)))):wq (.ref a) (.int (i:Int)) v K Y:=m9 h ⟨⟨"0:'A"⟩,⟨"'A<'B,A>B",hi⟩,hk⟩
theorem al1{a es ep}{K:So->Prop}(h:Y a=some (.aP es ep))(hl:es.length<1000)(hk:∀ep,K (put Y a (.aP (dup es i v) ep))):wq (.ref a) (.int i) v K Y:=Sr h ⟨hl,hk⟩
inductive LD(as:List Nat)(Y:So)(M:Nat->Mp)(rest acc:List V)(s:So):Prop
 |mk (dh fV bs:List Nat):as=dh++fV->rest=fV.map V.ref->acc=bs.map V.ref->bs.length=dh.length->(∀(i j:Nat) a,bs[i]?=some a->bs[j]?=some a->i=j)->(∀b∈bs,Y b=none)->(∀(i:Nat) b,bs[i]?=some b->∃es ep,s b=some (.aP es ep)/\Dc es (M i))->Fr [] Y s->LD as Y M rest acc s
inductive LE(d:De)(s2:So)(es:List (Int×V))(rest acc:List V)(s:So):Prop
 |mk (e1 e2:List (Int×V)):es=e1++e2->rest=e2.map (λp=>V.int p.1)->DO s acc (e1.filter λp=>![d.x,d.y].contains p.1)->acc.length<=e1.length->Fr [] s2 s->LE d s2 es rest acc s
def amB{n Q X Y x a M}{N:Int}{d:De}(h:DL Y x M N)(bF:0<=N)(hN:N<=8)(hd:pJ Y a d)(ak:d.ok)(h1:1<=bY d.s d.e)(h2:cA d.s d.e<=N+1)(hq:∀fa Y',Fr [] Y Y'->Y fa=none->DL Y' fa (jn d M) N->Q (.ref fa) Y'):(Wn (n+1)).call 14 [.ref x,.ref a] Q X Y:=by
 obtain⟨as,hx,hm⟩:=h;have lO:=hm.1;obtain⟨t,g1,g2⟩:=hd;have zh:bY d.s d.e<=cA d.s d.e:=Pp;exact en (fd:=I9) rfl ?_
 exists hx
 exact qx (LD as Y M) ?_ ?_ ?_ _ _ _ ⟨[],as,[],rfl,rfl,rfl,rfl,by simp,by simp,by simp,.refl⟩
 ·rintro _ _ s ⟨_,_,_,_,_,_,_,_,_,_,fs⟩;show fs.k hx
 ·rintro v rest acc s ⟨dh,fV,bs,ea,er,eb,hl,nd,nw,hb,fs⟩ K-hK;cases fV with
  |nil=>cases er
  |cons a1 fV=>
   injection er with ev er;subst ev;obtain⟨es,ep,k1,k2⟩:=hm.2 dh.length a1 (by rw[ea];simp);have HG:=fs.k k1;have kl:=k2.len
   exists HG
   exact⟨⟨"A>1000,A.3",kl⟩,λdq c hc=>?_⟩;have cb:c∉bs:=λbU=>by
    obtain⟨j,hj,e⟩:=List.getElem_of_mem bU;obtain⟨es,ep,h1,_⟩:=hb j c (by rw[bL hj,e])
    nomatch hc,h1
   exact hK _ _ ⟨dh++[a1],fV,bs++[c],by rw[ea];simp,er,by rw[eb];simp,by simp[hl],?_,?_,?_,fs.trans (.new hc)⟩
   ·intro i j z hi hj;have split:∀i:Nat,(bs++[c])[i]?=some z->(bs[i]?=some z)\/(i=bs.length/\z=c):=λi hi=>by
     rcases iX i bs.length with q | q
     ·rewrite [mV q] at hi;show .inl hi
     ·rewrite [oj q] at hi
      have:i-bs.length=0:=by
       rcases Nat.eq_zero_or_pos (i-bs.length) with h | h
       ·show h
       ·nomatch iV (by simp;show⟨"1.A,0>A",h⟩),hi
      rewrite [this] at hi
      simp at hi;show .inr ⟨Nat.le_antisymm (Nat.le_of_sub_eq_zero this) q,hi.symm⟩
    rcases split i hi with q1 | ⟨q1,q2⟩<;>rcases split j hj with q3 | ⟨q3,q4⟩
    ·show nd i j z q1 q3
    ·rewrite [q4] at q1;show absurd (iW q1) cb
    ·rewrite [q2] at q3;show absurd (iW q3) cb
    ·rw[q1,q3]
   ·intro b aK;rcases bH.mp aK with aK | aK
    ·show nw b aK
    ·simp at aK;subst aK;cases hs:Y b with
     |none=>rfl
     |some o=>nomatch fs b o hs (by simp),hc
   ·intro i b hi;rcases iX i bs.length with q | q
    ·rewrite [mV q] at hi
     obtain⟨es,ep,h1,h2⟩:=hb i b hi;show⟨es,ep,by rw[ae λe=>by nomatch e,hc,h1];show h1,h2⟩
    ·rewrite [oj q] at hi
     have:i-bs.length=0:=by
      rcases Nat.eq_zero_or_pos (i-bs.length) with h | h
      ·show h
      ·nomatch iV (by simp;show⟨"1.A,0>A",h⟩),hi
     rewrite [this] at hi
     simp at hi;subst hi;have ei:i=dh.length:=(Nat.le_antisymm (Nat.le_of_sub_eq_zero this) q).trans hl;subst ei;show⟨es,dq,ah,k2⟩
 ·rintro acc s ⟨dh,fV,bs,ea,er,eb,hl,nd,nw,hb,fs⟩;cases fV with
  |cons _ _=>cases er
  |nil=>
   rewrite [de] at ea
   subst ea;subst eb;exact⟨by simp;dsimp only[big];show⟨"A>100000,a:8,B~C,A~B,'C=a",hN,lO,hl,bw ⟨"0:a,0:a",bF⟩⟩,λfa nL=>?_⟩;have nf:Y fa=none:=by
    cases hs:Y fa with
    |none=>rfl
    |some o=>nomatch fs fa o hs (by simp),nL
   have f2:Fr [] s (put s fa (.lst (bs.map V.ref))):=.new nL;have fo:Fo Y (put s fa (.lst (bs.map V.ref))) fa bs M N:=by
    exact⟨ah,nd,nw,nf,λfK=>?_,⟨⟨"A~B,C~B,A~C;1,1,1;1,-1,-1",lO,hl⟩,λi b hi=>?_⟩,fs.trans f2⟩
    ·obtain⟨j,hj,e⟩:=List.getElem_of_mem fK;obtain⟨es,ep,h1,_⟩:=hb j fa (by rw[bL hj,e])
     nomatch nL,h1
    ·obtain⟨es,ep,h1,h2⟩:=hb i b hi;show⟨es,ep,f2.k h1,h2⟩
   have oJ:(if d.e<d.s then d.e else d.s)=bY d.s d.e:=rfl;have oK:(if d.s<d.e then d.e else d.s)=cA d.s d.e:=rfl;generalize put s fa (.lst (bs.map V.ref))=s1 at *;have vK:=fo.fr.k g1;exact aab vK (x:=.int d.s) rfl ?_;exact aab vK (x:=.int d.e) rfl ?_;exact aab vK (x:=.int d.s) rfl ?_;exact aab vK (x:=.int d.e) rfl ?_;show((-big:Int)<=(if d.e<d.s then d.e else d.s)-1/\(if d.e<d.s then d.e else d.s)-1<(big:Int)/\(-big:Int)<=(if d.s<d.e then d.e else d.s)-1/\(if d.s<d.e then d.e else d.s)-1<(big:Int))/\_;rw[oJ,oK];exact⟨⟨dX (b:=0) (by decide) ⟨"0:a-1,1:a",h1⟩,by dsimp only[big];show⟨"a-1<'100000,a:b,b:c+1,c:8",zh,h2,hN⟩,dX (b:=0) (by decide) ⟨"0:a-1,1:b,b:a",h1,zh⟩,by dsimp only[big];show⟨"a-1<'100000,a:b+1,b:8",h2,hN⟩⟩,?_⟩;have e0:mapM M (bY d.s d.e-1) (bY d.s d.e-1) (ic d)=M:=by
    funext i;dsimp only[mapM];rw[if_neg (λqq=>⟨"_,a-1:'A,'A<a-1;0,1,1",qq.1,qq.2⟩)]
   exact Gq (λi env s=>(env=[(4,.ref x),(8,.ref a),(36,.ref fa)]\/∃u,env=[(4,.ref x),(8,.ref a),(36,.ref fa),(6,u)])/\∃bs,Fo Y s fa bs (mapM M (bY d.s d.e-1) i (ic d)) N) (bY d.s d.e-1) (cA d.s d.e-1) ⟨"a-1:b-1,a:b",zh⟩ ?_ ?_ _ _ ⟨.inl rfl,bs,by rw[e0];show fo⟩
   ·rintro i env s2 i0 i1 ⟨ao,kE,jo⟩ K hK;obtain⟨iN,rfl⟩:∃iN:Nat,i=iN:=⟨i.toNat,⟨"a='A,'A=a;1,-1;1,1",bw ⟨"0:a,1:b,b-1:a",h1,i0⟩⟩⟩;have HJ:iN<N.toNat:=⟨"A>B,a:b+1,'A<a-1,'B=b;1,1,1,-1",h2,i1,bw ⟨"0:a,0:a",bF⟩⟩;obtain⟨b,es,ep,b1,b2,b3⟩:=jo.at_ HJ
    rewrite [al3] at b3
    have l3:=b3.len;have bl:=jo.dm.1;have q1:=jo.fr.k g1;have q2:=jo.fr.k g2;have ib:ix (kE.map V.ref) (iN:Int)=some (.ref b):=mq (by rw[List.getElem?_map,b1];rfl);have P6:∀s3 iS,Fo Y s3 fa iS (uh (mapM M (bY d.s d.e-1) iN (ic d)) iN (ic d (M iN))) N->K [(4,.ref x),(8,.ref a),(36,.ref fa),(6,.int iN)] s3:=λs3 iS f3=>hK _ _ ⟨.inr ⟨_,rfl⟩,iS,by rw[ajF i0];show f3⟩;have body:wSs (Wn n) [.iff (.cmp .eq (.idx (.v 8) (.cI 0)) (.cS 29)) [.asg (.idx (.idx (.v 36) (.v 6)) (.idx (.idx (.v 8) (.cI 3)) (.cI 0))) (.idx (.idx (.v 8) (.cI 3)) (.cI 1))] [.iff (.cmp .eq (.idx (.v 8) (.cI 0)) (.cS 30)) [.asg (.idx (.v 36) (.v 6)) (.bi .dict [(.comp (.tup [(.v 39),(.idx (.idx (.v 36) (.v 6)) (.v 39))]) [39] (.idx (.v 36) (.v 6)) [(.cmp .og (.v 39) (.idx (.v 8) (.cI 3)))])])] [.asg (.idx (.v 36) (.v 6)) (.fG (.idx (.v 8) (.cI 4)) (.bi .dict [(.list [(.idx (.v 8) (.cI 3))])]) .dH)]]] [(4,.ref x),(8,.ref a),(36,.ref fa),(6,.int iN)] K Q aN s2:=by
     have put2:∀(s3:So) (cJ:List (Int×V)),Fr [] s2 s3->Dc cJ (ic d (M iN))->∀dq c,s3 c=none->K [(4,.ref x),(8,.ref a),(36,.ref fa),(6,.int iN)] (put (put s3 c (.aP cJ dq)) fa (.lst ((kE.map V.ref).set iN (.ref c)))):=λs3 cJ f3 di dq c hc=>P6 _ _ ((jo.aB f3).repl HJ hc di);have ui:∀(s3:So) (cJ:List (Int×V)),Fr [] s2 s3->Dc cJ (ic d (M iN))->∀dq c,s3 c=none->wq (.ref fa) (.int (iN:Int)) (.ref c) (λs=>K [(4,.ref x),(8,.ref a),(36,.ref fa),(6,.int iN)] s) (put s3 c (.aP cJ dq)):=λs3 cJ f3 di dq c hc=>by
      have l4:put s3 c (.aP cJ dq) fa=some (.lst (kE.map V.ref)):=by
       have:=(jo.aB f3).l;rw[ae λe=>by rewrite [<-e,this] at hc;cases hc];show this
      show amj l4 (by simp;show⟨"A>B,A>C,B~C;1,1,-1",HJ,bl⟩) (put2 s3 cJ f3 di dq c hc)
     rcases ak.1 with hw | hw | hw
     ·rewrite [hw] at q1
      exact aab q1 (x:=.str 29) rfl ?_;exact aab q1 (x:=.ref t) rfl ?_;exact aab q2 (x:=.int d.y) rfl ?_;exact eU jo.l ib ?_;exact aab q1 (x:=.ref t) rfl ?_;exact aab q2 (x:=.int d.x) rfl ?_;exact al1 b2 ⟨"A>1000,A.3",l3⟩ λdq=>?_;exact P6 _ kE (jo.mut b1 ?_);have:=b3.dup (x:=d.x) (y:=d.y) ak.2.1.1 ak.2.1.2;dsimp only[ic];rw[if_pos hw];show this
     ·rewrite [hw] at q1
      have hF:ic d (M iN)=λk=>if (![d.x,d.y].contains k)=true then M iN k else none:=by
       dsimp only[ic];rw[if_neg (by rw[hw];decide),if_pos hw]
       funext k
       by_cases e:k∈[d.x,d.y]
       ·rw[if_pos e,if_neg (by rw[List.contains_iff_mem.mpr e];decide)]
       ·rw[if_neg e,if_pos (by simpa using e)]
      exact aab q1 (x:=.str 30) rfl ?_;exact aab q1 (x:=.str 30) rfl ?_;exact eU jo.l ib ?_
      exists b2
      exact⟨⟨"A>1000,A.3",l3⟩,?_⟩;exact qx (LE d s2 es) ?_ ?_ ?_ _ _ _ ⟨[],es,rfl,rfl,.nil,by simp,.refl⟩
      ·rintro _ _ s ⟨_,_,_,_,_,_,fs⟩;show fs.k b2
      ·rintro v rest acc s ⟨e1,e2,ee,er,ed,el,fs⟩ K2 hn hK2;cases e2 with
       |nil=>cases er
       |cons p e2=>
        injection er with ev er;subst ev;have P7:p∈es:=by rw[ee];simp
        obtain⟨_,j,hj⟩:=b3.2.1 p P7;exact aab (fs.k q1) (x:=.ref t) rfl ?_;have q2s:=fs.k q2;have main:∀bb,bb=[d.x,d.y].contains p.1->(match !bb with
         |true=>wE (Wn n) (.tup [(.v 39),(.idx (.idx (.v 36) (.v 6)) (.v 39))]) [(4,.ref x),(8,.ref a),(36,.ref fa),(6,.int iN),(39,.int p.1)] (λx s=>K2 (some x) s) aN s
         |false=>K2 none s):=by
         intro bb qP;cases bb with
         |true=>show hn _ ⟨e1++[p],e2,by rw[ee];simp,er,by rw[List.filter_append,List.filter_cons_of_neg (by rw[<-qP];decide)];simpa using ed,by simp;show⟨"A.B+1,A.B",el⟩,fs⟩
         |false=>
          exact eU (fs.k jo.l) ib ?_;exact ao7 (fs.k b2) (x:=.int j) (Cz b3.1 (by rw[<-hj];show P7)) ?_;intro c6 ji;have f6:Fr [] s (put s c6 (.tup [.int p.1,.int j])):=.new ji;exact hK2 _ _ ⟨e1++[p],e2,by rw[ee];simp,er,?_,by simp;show⟨"A.B,A.B",el⟩,fs.trans f6⟩;rw[List.filter_append,List.filter_cons_of_pos (by rw[<-qP];rfl)];have:=P4 (P5 ed λa xs ha=>f6 a _ ha (by simp)) (ah (Y:=s) (a:=c6) (o:=.tup [.int p.1,.int j]));show(congrArg (λv=>DO _ _ (_++[(p.1,v)])) hj).mpr this
        exists q2s
        show⟨[d.x,d.y],rfl,main _ rfl⟩
      ·rintro acc s ⟨e1,e2,ee,er,ed,el,fs⟩;cases e2 with
       |cons _ _=>cases er
       |nil=>
        rewrite [de] at ee
        subst ee;exact⟨by dsimp only[big];show⟨"A>100000,B.3,A.B",l3,el⟩,λc7 fF=>?_⟩;have f7:Fr [] s (put s c7 (.lst acc)):=.new fF;have b4:=b3.filter (f:=λk=>![d.x,d.y].contains k);have l4:=b4.len
        exists ah
        exact⟨_,P5 ed λa xs ha=>f7 a _ ha (by simp),⟨"A>1000,A.3",l4⟩,?_⟩;rw[PX b4.1];intro dq c hc;exact ui _ _ (fs.trans f7) ?_ dq c hc;rw[hF];show b4
     ·rewrite [hw] at q1
      have hF:ic d (M iN)=if d.f=true then (λk=>if k=d.x then some d.y else none) else λ_=>none:=by
       dsimp only[ic];rw[if_neg (by rw[hw];decide),if_neg (by rw[hw];decide)]
      exact aab q1 (x:=.str 31) rfl ?_;exact aab q1 (x:=.str 31) rfl ?_;exact aab q1 (x:=.bool d.f) rfl ?_;cases hf:d.f with
      |true=>
       rewrite [hf] at q1
       exact aab q1 (x:=.ref t) rfl ?_;intro c7 fF;have f7:Fr [] s2 (put s2 c7 (.lst [.ref t])):=.new fF
       exists ah
       exact⟨[(d.x,.int d.y)],?_,by simp,?_⟩
       ·show P4 (s:=put s2 c7 (.lst [.ref t])) .nil (f7.k q2)
       ·rw[PX (by simp)];intro dq c hc;exact ui _ _ f7 ?_ dq c hc;rw[hF,hf,if_pos rfl];have:=Dc.nil.dup (x:=d.x) (y:=d.y) ak.2.1.1 ak.2.1.2;show this
      |false=>
       rewrite [hf] at q1
       intro dq c hc;exact ui _ _ .refl ?_ dq c hc;rw[hF,hf,if_neg (by decide)];show Dc.nil
    rcases ao with rfl | ⟨u,rfl⟩
    ·show body
    ·show body
   ·rintro env s2 ⟨ao,kE,jo⟩;have fin:=hq fa s2 jo.fr jo.nf ⟨kE,jo.l,jo.dm⟩;rcases ao with rfl | ⟨u,rfl⟩
    ·show fin
    ·show fin
set_option tactic.hygienic false
def DL.aB{Y Y' x M N}(h:DL Y x M N)(f:Fr [] Y Y'):DL Y' x M N:=by
 obtain⟨as,h1,h2⟩:=h;show⟨as,f.k h1,h2.fr λa es ep e=>f.k e⟩
def P8{d M}{N:Int}(h2:cA d.s d.e<=N+1):(∀i:Nat,i<N.toNat->jn d M i=M i)↔jn d M=M:=by
 constructor
 ·intro h
  funext i
  by_cases g:i<N.toNat
  ·show h i g
  ·unfold jn mapM;rw[if_neg (λqq=>⟨"_,a:b+1,!A>B,'A<a-1,'B=b;0,1,1,1,-1",h2,g,qq.2,bw ⟨"0:a,b:a+1,'A<b-1",h2,qq.2⟩⟩)]
 ·intro h i _;rw[h]
def ap7{n Q X Y x a M}{N:Int}{d:De}{rd:Bool}(h:DL Y x M N)(bF:0<=N)(hN:N<=8)(hd:pJ Y a d)(ak:d.ok)(hq:∀c x' Y',Fr [] Y Y'->Y' c=some (.tup [cj N d rd M,.ref x'])->(x'=x\/Y x'=none)->(cj N d rd M≠.bool true->DL Y' x' M N)->(cj N d rd M=.bool true->DL Y' x' (jn d M) N)->Q (.ref c) Y'):(Wn (n+2)).call 5 [.ref x,.ref a,.int N,.bool rd] Q X Y:=by
 have di:=hd;obtain⟨t,g1,g2⟩:=hd;have oJ:(if d.e<d.s then d.e else d.s)=bY d.s d.e:=rfl;have oK:(if d.s<d.e then d.e else d.s)=cA d.s d.e:=rfl;have plain:∀(s:So) (v:V),Fr [] Y s->cj N d rd M=v->v≠.bool true->∀c,s c=none->Q (.ref c) (put s c (.tup [v,.ref x])):=λs v fs hv hn c hc=>by
  have f2:=fs.trans (Fr.tQ (o:=.tup [v,.ref x]) hc);show hq c x _ f2 (by rw[hv];show ah) (.inl rfl) (λ_=>h.aB f2) (λe=>absurd (hv.symm.trans e) hn)
 exact en (fd:=f5) rfl ?_;exact aab g1 (x:=.int d.s) rfl ?_;exact aab g1 (x:=.int d.e) rfl ?_;have jL:∀s,Fr [] Y s->cj N d rd M=.str 34->wSs (Wn (n+1)) [.ret (.tup [(.cS 34),(.v 4)])] [(4,.ref x),(8,.ref a),(2,.int N),(11,.bool rd)] (λm s=>wSs (Wn (n+1)) (f5.body.drop 1) m (qN Q) Q X s) Q X s:=λs fs hv=>plain s (.str 34) fs hv (by simp);show(match decide ((if d.e<d.s then d.e else d.s)<1) with
  |true=>wSs (Wn (n+1)) [.ret (.tup [(.cS 34),(.v 4)])] [(4,.ref x),(8,.ref a),(2,.int N),(11,.bool rd)] (λm s=>wSs (Wn (n+1)) (f5.body.drop 1) m (qN Q) Q X s) Q X Y
  |false=>wB (Wn (n+1)) (.cmp .gt (.bi .max [(.idx (.v 8) (.cI 1)),(.idx (.v 8) (.cI 2))]) (.ar .add (.v 2) (.cI 1))) [(4,.ref x),(8,.ref a),(2,.int N),(11,.bool rd)] (wE (Wn (n+1)) (.cmp .gt (.bi .max [(.idx (.v 8) (.cI 1)),(.idx (.v 8) (.cI 2))]) (.ar .add (.v 2) (.cI 1))) [(4,.ref x),(8,.ref a),(2,.int N),(11,.bool rd)]) (λt s=>match t with
   |true=>wSs (Wn (n+1)) [.ret (.tup [(.cS 34),(.v 4)])] [(4,.ref x),(8,.ref a),(2,.int N),(11,.bool rd)] (λm s=>wSs (Wn (n+1)) (f5.body.drop 1) m (qN Q) Q X s) Q X s
   |false=>wSs (Wn (n+1)) (f5.body.drop 1) [(4,.ref x),(8,.ref a),(2,.int N),(11,.bool rd)] (qN Q) Q X s) X Y)
 rw[oJ];by_cases e:bY d.s d.e<1
 ·rw[dJ e];show jL Y .refl (acl (.inl e))
 ·rw[fS e];have e':1<=bY d.s d.e:=⟨"1:a,!a<1",e⟩;exact aab g1 (x:=.int d.s) rfl ?_;exact aab g1 (x:=.int d.e) rfl ?_;show(match decide (N+1<(if d.s<d.e then d.e else d.s)) with
   |true=>wSs (Wn (n+1)) [.ret (.tup [(.cS 34),(.v 4)])] [(4,.ref x),(8,.ref a),(2,.int N),(11,.bool rd)] (λm s=>wSs (Wn (n+1)) (f5.body.drop 1) m (qN Q) Q X s) Q X Y
   |false=>wSs (Wn (n+1)) (f5.body.drop 1) [(4,.ref x),(8,.ref a),(2,.int N),(11,.bool rd)] (qN Q) Q X Y)
  rw[oK];by_cases e2:N+1<cA d.s d.e
  ·rw[dJ e2];show jL Y .refl (acl (.inr e2))
  ·rw[fS e2];have kh:cA d.s d.e<=N+1:=⟨"a:b+1,!b+1<a",e2⟩;have rest:¬ (rd=true/\d.w=31)->wSs (Wn (n+1)) (f5.body.drop 2) [(4,.ref x),(8,.ref a),(2,.int N),(11,.bool rd)] (qN Q) Q X Y:=by
    intro k8;exact amB h bF hN di ak e' kh λfa s fs nfa nL=>?_;have r1:jn d M=M->wSs (Wn (n+1)) [.ret (.tup [(.cB false),(.v 4)])] [(4,.ref x),(8,.ref a),(2,.int N),(11,.bool rd),(36,.ref fa)] (λm s=>wSs (Wn (n+1)) (f5.body.drop 4) m (qN Q) Q X s) Q X s:=λhM=>plain s (.bool false) fs (HC e' kh k8 hM) (by simp);have r2:jn d M≠M->wSs (Wn (n+1)) (f5.body.drop 4) [(4,.ref x),(8,.ref a),(2,.int N),(11,.bool rd),(36,.ref fa)] (qN Q) Q X s:=λhM=>by
     clear k8 r1 jL;cases rd with
     |true=>show plain s (.str 35) fs (HD e' kh hM) (by simp)
     |false=>
      intro c hc;have f2:=fs.trans (Fr.tQ (o:=.tup [.bool true,.ref fa]) hc);have hv:=PS (N:=N) e' kh hM;show hq c fa _ f2 (by rw[hv];show ah) (.inr nfa) (λq=>absurd hv q) (λ_=>nL.aB (.new hc))
    have r:=apa (K:=λt=>match t with
     |true=>wSs (Wn (n+1)) [.ret (.tup [(.cB false),(.v 4)])] [(4,.ref x),(8,.ref a),(2,.int N),(11,.bool rd),(36,.ref fa)] (λm s=>wSs (Wn (n+1)) (f5.body.drop 4) m (qN Q) Q X s) Q X s
     |false=>wSs (Wn (n+1)) (f5.body.drop 4) [(4,.ref x),(8,.ref a),(2,.int N),(11,.bool rd),(36,.ref fa)] (qN Q) Q X s) nL (h.aB fs) (λhM=>r1 ((P8 kh).mp hM)) (λhM=>r2 λe=>hM ((P8 kh).mpr e))
    show r
   clear hq jL;cases rd with
   |false=>show rest (by simp)
   |true=>
    exact aab g1 (x:=.str d.w) rfl ?_;rcases ak.1 with hw | hw | hw
    ·rw[hw];show rest (by simp[hw])
    ·rw[hw];show rest (by simp[hw])
    ·rw[hw];show plain Y (.str 35) .refl (HB e' kh hw) (by simp)
def kY(m:Mp):List Da:=[0,1,2].filterMap λk=>(m k).map λv=>.tup [.int k,.int v]
def dat(m:Mp):Da:=.lst (kY m)
def uj(N:Int)(M:Nat->Mp):Da:=.lst ((List.range N.toNat).map λi=>dat (M i))
class inductive PO(s:So):List (Int×V)->List (Int×V)->Prop
 |nil:PO s [] []
 |cons {k v c ps es}:s c=some (.tup [.int k,v])->PO s ps es->PO s ((k,.ref c)::ps) ((k,v)::es)
def PO.fr{s s' ps es}(h:PO s ps es)(f:Fr [] s s'):PO s' ps es:=by
 induction h with
 |nil=>show .nil
 |cons h _ ih=>show .cons (f.k h) ih
def PO.app{s ps es uX cJ}(h:PO s ps es)(h':PO s uX cJ):PO s (ps++uX) (es++cJ):=by
 induction h with
 |nil=>show h'
 |cons h _ ih=>show .cons h ih
def PO.keys{s ps es}(h:PO s ps es):ps.map (·.1)=es.map (·.1):=by
 induction h with
 |nil=>rfl
 |cons _ _ ih=>simp[ih]
def PO.len{s ps es}(h:PO s ps es):ps.length=es.length:=by
 induction h with
 |nil=>rfl
 |cons _ _ ih=>simp[ih]
theorem rd2{c:Nat}{k:Int}(h:s c=some (.tup [.int k,.int j])):Rd s (.ref c) (.tup [.int k,.int j]):=.tup h (.cons (.int _) (.cons (.int _) .nil))
def PO.ins{s c k v}(h:s c=some (.tup [.int k,v])){ps es}(x:PO s ps es):PO s (lB (k,.ref c) ps) (lB (k,v) es):=by
 induction x with
 |nil=>show .cons h .nil
 |@cons j u d ps es h' t ih=>
  show PO s (if j<k then _::lB _ ps else _) (if j<k then _::lB _ es else _);by_cases q:j<k
  ·rw[if_pos q,if_pos q];show .cons h' ih
  ·rw[if_neg q,if_neg q];show .cons h (.cons h' t)
def PO.sort{s ps es}(x:PO s ps es):PO s (hJ ps) (hJ es):=by
 induction x with
 |nil=>show .nil
 |cons h _ ih=>show PO.ins h ih
def aqq{k:Int}(h:0<=k/\k<=2):k=0\/k=1\/k=2:=by
 obtain⟨h,h2⟩:=h;have e:=bw h;rw[<-e] at h2 ⊢;show(Eh (Nat.lt_succ_of_le (Int.ofNat_le.mp h2))).imp (congrArg Int.ofNat) (Or.imp (congrArg Int.ofNat) (congrArg Int.ofNat))
def gP(p:Int×V):Option Da:=match p.2 with
 | .int j=>some (.tup [.int p.1,.int j])
 |_=>none
def PO.rds{s ps es}(x:PO s ps es):(∀p∈es,∃j,p.2=.int j)->gD s (ps.map (·.2)) (es.filterMap gP):=by
 induction x with
 |nil=>intro _;show .nil
 |cons h t ih=>
  intro hv;obtain⟨j,e⟩:=hv _ (.head _);have e:_=V.int j:=e;subst e;show .cons (rd2 h) (ih λp hp=>hv p (.tail _ hp))
theorem P9{m:Mp}:∀{ks:List Int}{E:List (Int×V)},ks.Pairwise (· < ·)->E.Pairwise (λp q=>p.1<q.1)->(∀p∈E,p.1∈ks)->(∀k∈ks,∀v,(k,v)∈E↔∃j,m k=some j/\v=.int j)->E.filterMap gP=ks.filterMap λk=>(m k).map λv=>.tup [.int k,.int v]
 | [],[],_,_,_,_=>rfl
 | [],p::E,_,_,h,_=>v9 (h p (.head _))
 |b::ks,E,hk,hE,h,hm=>by
  obtain⟨k1,k2⟩:=List.pairwise_cons.mp hk;have up:∀{E':List (Int×V)},E'.Pairwise (λp q=>p.1<q.1)->(∀p∈E',p∈E/\p.1≠b)->(∀k∈ks,∀v,(k,v)∈E->(k,v)∈E')->E'.filterMap gP=ks.filterMap λk=>(m k).map λv=>.tup [.int k,.int v]:=λh1 h2 h3=>
   P9 k2 h1 (λp hp=>(aO.mp (h p (h2 p hp).1)).resolve_left (h2 p hp).2) λk hk v=>⟨λq=>(hm k (.tail _ hk) v).mp (h2 _ q).1,λq=>h3 k hk v ((hm k (.tail _ hk) v).mpr q)⟩
  have no:(∀v,(b,v)∉E)->m b=none:=λq=>by
   cases e:m b with
   |none=>rfl
   |some j=>show absurd ((hm b (.head _) _).mpr ⟨j,e,rfl⟩) (q _)
  by_cases q:∃v,(b,v)∈E
  ·obtain⟨v,hv⟩:=q;cases E with
   |nil=>cases hv
   |cons p r=>
    obtain⟨e1,e2⟩:=List.pairwise_cons.mp hE;have pb:p=(b,v):=by
     rcases aO.mp hv with e | e
     ·show e.symm
     ·have h1:=e1 _ e;rcases aO.mp (h p (.head _)) with e | e
      ·show absurd h1 (by rw[e];show Int.lt_irrefl _)
      ·show absurd (Int.lt_trans (k1 _ e) h1) (Int.lt_irrefl _)
    subst pb;obtain⟨j,hj,ej⟩:=(hm b (.head _) v).mp (.head _);subst ej;rw[List.filterMap_cons,List.filterMap_cons,hj];show congrArg (_::·) (up e2 (λp hp=>⟨.tail _ hp,λe=>absurd (e1 p hp) (by rw[e];show Int.lt_irrefl _)⟩) λk hk v hv=>(aO.mp hv).resolve_left λe=>absurd (k1 k hk) (by cases e;show Int.lt_irrefl _))
  ·rw[List.filterMap_cons,no λv hv=>q ⟨v,hv⟩];show up hE (λp hp=>⟨hp,λe=>q ⟨p.2,by rw[<-e];show hp⟩⟩) λ_ _ _ hv=>hv
def Qa{ps:List (Int×V)}{m:Mp}(hp:PO s ps es)(hd:Dc es m):gD s ((hJ ps).map (·.2)) (kY m):=by
 have mem:∀{p},p∈hJ es↔p∈es:=(Bj es).mem_iff
 have h:=hp.sort.rds λp hp=>(hd.2.1 p (mem.mp hp)).2
 rwa [P9 (m:=m) (ks:=[0,1,2]) (by decide) ?_ (λp hp=>?_) λk _ v=>?_] at h
 ·have nd:((hJ es).map (·.1)).Nodup:=((Bj es).map _).nodup_iff.mpr hd.1;rw[List.Nodup,List.pairwise_map] at nd;show((L4 es).and nd).imp λh=>Int.lt_iff_le_and_ne.mpr h
 ·have:=(hd.2.1 p (mem.mp hp)).1;rcases aqq this with e | e | e<;>rw[e]<;>simp
 ·rw[mem];have hk:=hd.2.2 k;constructor
  ·intro q;rw[Cz hd.1 q] at hk;cases e:m k with
   |none=>nomatch e,hk
   |some j=>rw[e] at hk;show⟨j,rfl,dW hk⟩
  ·rintro⟨j,e,rfl⟩;rw[e] at hk;show zP hk
def HK{step:V->Env->(Option V->So->Prop)->So->Prop}{Q:List V->So->Prop}(I:Int->List V->So->Prop)(a b:Int)(yG:a<=b)
  (hs:∀i acc s,a<=i->i<b->I i acc s->∀K:Option V->So->Prop,(∀x s',I (i+1) (acc++[x]) s'->K (some x) s')->step (.int i) m K s) (he:∀acc s,I b acc s->Q acc s):∀(acc:List V) (s:So),I a acc s->gather step (λ_=>True) m Q (kM a b) acc s:=by
 have key:∀(n:Nat) (j:Nat) (acc s),j+n=(b-a).toNat->I (a+j) acc s->gather step (λ_=>True) m Q ((List.range' j n).map λ(i:Nat)=>V.int (a+(i:Int))) acc s:=by
  intro n;induction n with
  |zero=>
   intro j acc s hj hi;have:a+(j:Int)=b:=⟨"a+'A=b,A+0~B,'B=b-a;1,1,1;1,-1,-1",hj,bw ⟨"0:a-b,b:a",yG⟩⟩;rw[this] at hi;show⟨trivial,he acc s hi⟩
  |succ n ih=>
   intro j acc s hj hi;exact⟨trivial,hs _ acc s ⟨"a:a+'A"⟩ ⟨"a+'A<b,A+(B+1)~C,'C=b-a",hj,bw ⟨"0:a-b,b:a",yG⟩⟩ hi _ λx s' lF=>ih (j+1) _ s' ⟨"A+1+B~C,A+(B+1)~C;1,1;1,-1",hj⟩ ?_⟩;have:a+(j:Int)+1=a+((j+1:Nat):Int):=⟨"a+'A+1=a+'(A+1)"⟩;rw[<-this];show lF
 intro acc s hi;have:=key (b-a).toNat 0 acc s ⟨"0+A~A"⟩ (by simpa using hi);unfold kM;rw[List.range_eq_range'];show this
def gD.app{s vs ds cy Qb}(h:gD s vs ds)(h':gD s cy Qb):gD s (vs++cy) (ds++Qb):=by
 induction vs generalizing ds with
 |nil=>cases h;show h'
 |cons v vs ih=>cases h with | cons h1 h2=>show .cons h1 (ih h2)
def Rd.fr(f:Fr [] s s'):∀{v d},Rd s v d->Rd s' v d:=by
 intro v d h;exact Rd.rec (motive_1:=λv d _=>Rd s' v d) (motive_2:=λvs ds _=>gD s' vs ds) ?_ ?_ ?_ ?_ ?_ ?_ ?_ ?_ h
 ·show .none
 ·show λb=>.bool b
 ·show λi=>.int i
 ·show λk=>.str k
 ·show λ{a xs l} h1 _ h2=>.lst (f.k h1) h2
 ·show λ{a xs l} h1 _ h2=>.tup (f.k h1) h2
 ·show .nil
 ·show λ_ _ h1 h2=>.cons h1 h2
def gD.fr(f:Fr [] s s'){vs ds}(h:gD s vs ds):gD s' vs ds:=by
 induction vs generalizing ds with
 |nil=>cases h;show .nil
 |cons v vs ih=>cases h with | cons h1 h2=>show .cons (h1.fr f) (ih h2)
def gD.len{s vs ds}(h:gD s vs ds):vs.length=ds.length:=by
 induction vs generalizing ds with
 |nil=>cases h;rfl
 |cons v vs ih=>cases h with | cons h1 h2=>simp[ih h2]
def bX.pairs{Y vs l}(h:bX Y vs l):∃ps,Pairs Y vs ps/\PO Y ps (l.map λe=>(e.1,V.int e.2)):=by
 induction h with
 |nil=>show⟨[],.nil,.nil⟩
 |cons h1 _ ih=>
  obtain⟨ps,p1,p2⟩:=ih;show⟨_,.cons h1 p1,.cons h1 p2⟩
def apA{l m}(ho:nQ l)(hk:∀k,look l k=m k):Dc (l.map λe=>(e.1,V.int e.2)) m:=by
 exact⟨?_,λp hp=>?_,λk=>?_⟩
 ·rw[List.map_map];show ho.1
 ·obtain⟨e,he,rfl⟩:=bJ.mp hp;show⟨ho.2 e he,e.2,rfl⟩
 ·rw[<-hk k];clear hk ho;induction l with
  |nil=>rfl
  |cons e l ih=>
   show(if e.1=k then some (V.int e.2) else cq _ k)=Option.map V.int (if e.1=k then some e.2 else look l k);by_cases q:e.1=k
   ·rw[if_pos q,if_pos q];rfl
   ·rw[if_neg q,if_neg q];show ih
def n8(n:Nat)(M:Nat->Mp):List Da:=(List.range n).map λi=>dat (M i)
def HL{n M}:n8 (n+1) M=n8 n M++[dat (M n)]:=by unfold n8;rw[List.range_succ,List.map_append];rfl
def shown{n Q X c Y ra rd tk sv nt L M}(h:Bs c Y ra rd tk sv nt L M)(bF:0<=c.N)(hN:c.N<=8)(hq:∀a Y',Fr [] Y Y'->Rd Y' (.ref a) (uj c.N M)->Q (.ref a) Y'):(Wn (n+5)).call 7 [.ref c.bf] Q X Y:=by
 exact en (fd:=f7) rfl ?_
 exists h.bf
 exact apr h ?_;exact⟨⟨by decide,by decide,dX (by decide) bF,by unfold big;show⟨"a<'100000,a:8",hN⟩⟩,?_⟩;exact HK (λi acc s=>∃k:Nat,i=k/\gD s acc (n8 k M)/\Fr [] Y s) 0 c.N bF ?_ ?_ _ _ ⟨0,rfl,.nil,.refl⟩
 ·rintro i acc s i0 i1 ⟨k,rfl,hr,fs⟩ K hK;have hs:=h.aB fs;exact aA hs.bf ?_;exact akR hs.tree i0 i1 hs.tp λp s1 f1 hp=>?_;rw[Int.toNat_natCast] at hp;obtain⟨l,⟨vs,h1,h2⟩,h3,h4⟩:=(hp.aB f1).2;obtain⟨ps,p1,p2⟩:=h2.pairs;have dc:=apA h3 h4;have fin:bi .sorted [.ref p] (λv s=>K (some v) s) s1:=by
   exact m9 h1 ?_;exact .inr ⟨ps,p1,by rw[p2.keys];show dc.1,by rw[p2.len];show dc.len,λc6 ji=>?_⟩;have f6:Fr [] s1 (put s1 c6 (.lst ((hJ ps).map (·.2)))):=.new ji;exact hK _ _ ⟨k+1,⟨"'A+1='(A+1)"⟩,?_,(fs.trans f1).trans f6⟩;rw[HL];show(hr.fr (f1.trans f6)).app (.cons (.lst ah ((Qa p2 dc).fr f6)) .nil)
  show fin
 ·rintro acc s ⟨k,ek,hr,fs⟩;have hl:=hr.len;have:(n8 k M).length=k:=by unfold n8;simp
  exact⟨by unfold big;show⟨"A>100000,a:8,a='B,A~C,C~B;1,1,-1,1,1",hN,ek,hl,this⟩,λc7 fF=>?_⟩;have f7:Fr [] s (put s c7 (.lst acc)):=.new fF;exact hq c7 _ (fs.trans f7) (.lst ah ?_);have:c.N.toNat=k:=⟨"A~B,a='B,'A=a;1,1,1;1,-1,-1",ek,bw ⟨"0:a,0:a",bF⟩⟩;rw[this];show hr.fr f7
def ajS{x:Nat}:lk (up m x v) x=some v:=by
 induction m with
 |nil=>show(match Nat.beq x x with | true=>some v | false=>none)=_;rw[Nat.beq_refl]
 |cons p m ih=>
  obtain⟨k,u⟩:=p;dsimp only[up];cases h:Nat.beq k x with
  |true=>show(match Nat.beq k x with | true=>some v | false=>lk m x)=_;rw[h]
  |false=>show(match Nat.beq k x with | true=>some u | false=>lk (up m x v) x)=_;rw[h];show ih
def akA{K:List (Int×V)->So->Prop}:∀(es:List (Int×V)) (acc done:List (Int×V)) (s:So),PO s acc done->(∀ps s',Fr [] s s'->PO s' ps (done++es)->K ps s')->rD K es acc s:=by
 intro zl;induction zl with
 |nil=>
  intro acc done s h hK;show hK acc s .refl (by simpa using h)
 |cons zx r ih=>
  obtain⟨k,v⟩:=zx;intro acc done s h hK;show λc hc=>by
   have f1:Fr [] s (put s c (.tup [.int k,v])):=.new hc;show ih _ (done++[(k,v)]) _ ((h.fr f1).app (.cons ah .nil)) λps s' f' hp=>hK ps s' (f1.trans f') (by simpa using hp)
def HM{n Q X Y x y M}{N:Int}(hm:lk m y=some (.ref x))(h:DL Y x M N)(bF:0<=N)(hN:N<=8)(hq:∀a Y',Fr [] Y Y'->Rd Y' (.ref a) (uj N M)->Q (.ref a) Y'):wE (Wn n) (.comp (.items (.v 18)) [18] (.v y) []) m Q X Y:=by
 obtain⟨as,hx,hd⟩:=h;show(match lk m y with | some (.bA _ _ _)=>False | some v=>m7 _ v Y | Option.none=>False)
 exact uG hm (m9 hx ?_);exact qx (λrest acc s=>∃dh fV,as=dh++fV/\rest=fV.map V.ref/\gD s acc (n8 dh.length M)/\Fr [] Y s) ?_ ?_ ?_ _ _ _ ⟨[],as,rfl,rfl,.nil,.refl⟩
 ·rintro _ _ s ⟨_,_,_,_,_,fs⟩;show fs.k hx
 ·rintro v rest acc s ⟨dh,fV,ea,er,hr,fs⟩ K-hK;cases fV with
  |nil=>cases er
  |cons a1 fV=>
   injection er with ev er;subst ev;obtain⟨es,ep,k1,k2⟩:=hd.2 dh.length a1 (by rw[ea];simp);have HG:=fs.k k1;show match lk (up m 18 (.ref a1)) 18 with
    |some (.bA _ _ _)=>False
    |some v=>(match v with
     | .ref a=>match s a with
      |some (.aP es _)=>kL es/\(es.map (·.1)).Nodup/\es.length<=3/\rD (λps s=>new (.lst ((hJ ps).map (·.2))) _ s) es [] s
      |_=>False
     |_=>False)
    |Option.none=>False
   rw[ajS];dsimp only;rw[HG];exact⟨λp hp=>(k2.2.1 p hp).2,k2.1,k2.len,akA es [] [] s .nil λps s' f' hp c6 ji=>?_⟩;have f6:Fr [] s' (put s' c6 (.lst ((hJ ps).map (·.2)))):=.new ji;exact hK _ _ ⟨dh++[a1],fV,by rw[ea];simp,er,?_,(fs.trans f').trans f6⟩;have e1:(dh++[a1]).length=dh.length+1:=by simp
   rw[e1,HL];show(hr.fr (f'.trans f6)).app (.cons (.lst ah ((Qa (by simpa using hp) k2).fr f6)) .nil)
 ·rintro acc s ⟨dh,fV,ea,er,hr,fs⟩;cases fV with
  |cons _ _=>cases er
  |nil=>
   rw[de] at ea;subst ea;have hl:=hr.len;have e2:(n8 as.length M).length=as.length:=by unfold n8;simp
   have e3:=hd.1;exact⟨by unfold big;show⟨"A>100000,a:8,A~B,B~C,C~D,'D=a",hN,hl,e2,e3,bw ⟨"0:a,0:a",bF⟩⟩,λc7 fF=>?_⟩;have f7:Fr [] s (put s c7 (.lst acc)):=.new fF;exact hq c7 _ (fs.trans f7) (.lst ah ?_);rw[<-e3];show hr.fr f7
def Qc{l:List Da}(h:∀d∈l,Da.eq d d=true):Da.eqs l l=true:=by
 induction l with
 |nil=>rfl
 |cons d l ih=>
  show(Da.eq d d && Da.eqs l l)=true;rw[h d (.head _),ih λe he=>h e (.tail _ he)];rfl
def CB(N:Int)(M:Nat->Mp):Da.eq (uj N M) (uj N M)=true:=by
 exact Qc λd hd=>?_;obtain⟨i,_,rfl⟩:=bJ.mp hd;exact Qc λd hd=>?_;unfold kY at hd;obtain⟨k,_,hk⟩:=List.mem_filterMap.mp hd;cases hm:M i k with
 |none=>nomatch hm,hk
 |some v=>
  nomatch hm,hk
  show(decide (k=k) && (decide (v=v) && true))=true;simp
def Qd{l:List Da}{n:Nat}(h:∀d∈l,Da.deep d<=n):Da.iL l<=n:=by
 induction l with
 |nil=>show Nat.zero_le _
 |cons d l ih=>
  show max (Da.deep d) (Da.iL l)<=n;show Nat.max_le.mpr ⟨h d (.head _),ih λe he=>h e (.tail _ he)⟩
def q9(N:Int)(M:Nat->Mp):Da.deep (uj N M)<20:=by
 have h1:∀m,Da.deep (dat m)<=2:=λm=>by
  have:Da.iL (kY m)<=1:=Qd λd hd=>by
   unfold kY at hd;obtain⟨k,_,hk⟩:=List.mem_filterMap.mp hd;cases hm:m k with
   |none=>nomatch hm,hk
   |some v=>nomatch hm,hk;simp[Da.deep,Da.iL]
  show Da.iL (kY m)+1<=2;show⟨"A+1.2,A.1",this⟩
 have:Da.iL ((List.range N.toNat).map λi=>dat (M i))<=2:=Qd λd hd=>by
  obtain⟨i,_,rfl⟩:=bJ.mp hd;show h1 _
 show Da.iL _+1<20;show⟨"A+1>20,A.2",this⟩
abbrev iI(ce:Nat)(gs ge:Int):O:=.inst 4 [(42,.int 8),(73,.ref ce),(74,.int gs),(75,.int ge)]
def Qe{a xs}{Q:V->So->Prop}(h:Y a=some (.lst xs))(hb:0<=i/\i<200/\xs.length * i.toNat<200)(hq:∀c,Y c=none->Q (.ref c) (put Y c (.lst (List.replicate i.toNat xs).flatten))):arith .rep (.ref a) (.int i) Q Y:=by
 show iq (Y a) λxs=>(0<=i/\i<200/\xs.length * i.toNat<200)/\new (.lst (List.replicate i.toNat xs).flatten) Q Y;rw[h];show⟨hb,hq⟩
def am0{n Q X Y g c1}(hg:Y g=some (.inst 4 []))(hc:Y c1=some (.lst []))(hq:∀Y' ce xs,Y' g=some (iI ce 0 8)->Y' ce=some (.lst xs)->xs.length=8->Y ce=none->Fr [g] Y Y'->Q .none Y'):(Wn (n+1)).call 21 [.ref g,.ref c1,.int 8] Q X Y:=by
 have gc:c1≠g:=λe=>by nomatch e,hg,hc
 exact en (fd:=Jf) rfl ?_;exact sat hg ?_;have h1:∀fs,put Y g (.inst 4 fs) c1=some (.lst []):=λfs=>by rw[ae gc];show hc
 conv=>whnf
 rw[h1];exact⟨by decide,λc2 dB=>?_⟩;intro c3 iG;have Qf:c2≠c3:=λe=>by rw[<-e,ah] at iG;cases iG
 exact Qe ah ⟨by decide,by decide,by simp⟩ λc4 lh=>?_;have c42:c2≠c4:=λe=>by rw[<-e,ae Qf,ah] at lh;cases lh
 exact yD (xs:=[]) (by rw[ae c42,ae Qf];show ah) ah (by simp) λce vV=>?_;have gg:∀b,b≠g->∀o,Y b=some o->b≠c2/\b≠c3/\b≠c4/\b≠ce:=λb hb o ho=>by
  have a2:b≠c2:=λe=>by rw[<-e,ae hb,ho] at dB;cases dB
  have a3:b≠c3:=λe=>by rw[<-e,ae a2,ae hb,ho] at iG;cases iG
  have a4:b≠c4:=λe=>by rw[<-e,ae a3,ae a2,ae hb,ho] at lh;cases lh
  show⟨a2,a3,a4,λe=>by rw[<-e,ae a4,ae a3,ae a2,ae hb,ho] at vV;cases vV⟩
 have g2:g≠c2:=λe=>by rw[<-e,ah] at dB;cases dB
 have g3:g≠c3:=λe=>by rw[<-e,ae g2,ah] at iG;cases iG
 have g4:g≠c4:=λe=>by rw[<-e,ae g3,ae g2,ah] at lh;cases lh
 have ge:g≠ce:=λe=>by rw[<-e,ae g4,ae g3,ae g2,ah] at vV;cases vV
 have gce:Y ce=none:=by
  cases hs:Y ce with
  |none=>rfl
  |some o=>show absurd rfl (gg ce (aaa ge) o hs).2.2.2
 exact sat (a:=g) (fs:=[(42,.int 8)]) (by rw[ae ge,ae g4,ae g3,ae g2];show ah) ?_ rfl rfl rfl;have k1:=gg c1 gc _ hc;have dG:∀qZ fs,put (put (put (put (put (put Y g (.inst 4 qZ)) c2 (.lst [])) c3 (.lst [.int 0])) c4 (.lst (List.replicate (8:Int).toNat [V.int 0]).flatten)) ce (.lst ([]++(List.replicate (8:Int).toNat [V.int 0]).flatten))) g (.inst 4 fs) c1=some (.lst []):=λqZ fs=>by
  rw[ae gc,ae k1.2.2.2,ae k1.2.2.1,ae k1.2.1,ae k1.1,ae gc];show hc
 conv=>whnf
 rw[dG];exact sat ah ?_;conv=>whnf
 rw[ae gc,dG];exact sat ah ?_;exact hq _ ce (List.replicate 8 [V.int 0]).flatten ah ?_ (by simp) gce λb o hb hn=>?_
 ·rw[ae (aaa ge),ae (aaa ge),ae (aaa ge)];show ah
 ·have zR:b≠g:=λe=>hn (by rw[e];show .head _);have kb:=gg b zR o hb;rw[ae zR,ae zR,ae zR,ae kb.2.2.2,ae kb.2.2.1,ae kb.2.1,ae kb.1,ae zR];show hb
def ak4{n Q X Y k}(hk:Y k=some (.inst 5 []))(hq:∀Y' d ep,Y' k=some (.inst 5 [(17,.ref d)])->Y' d=some (.aP [] ep)->Fr [k] Y Y'->Q .none Y'):(Wn (n+1)).call 22 [.ref k] Q X Y:=by
 exact en (fd:=Jg) rfl ?_;intro ep d hd;have kd:k≠d:=λe=>by rw[<-e,hk] at hd;cases hd
 exact sat (by rw[ae kd];show hk) ?_;exact hq _ d ep ah (by rw[ae (aaa kd)];show ah) λb o hb hn=>?_;rw[ae λe=>hn (by rw[e];show .head _),ae λe=>by nomatch e,hd,hb]
 show hb
abbrev gx(tx mk ls:Nat)(pt zv tk ct sv:Int)(un tp:V):O:=.inst 7 [(39,.int 1),(40,.str 25),(41,.ref tx),(43,.ref mk),(44,.int pt),(45,.int 1),(46,.int zv),(47,.none),(48,.bool true),(11,.bool false),(9,.int tk),(49,.int ct),(50,.int sv),(51,.ref ls),(14,un),(27,tp),(52,.none),(53,.none),(54,.none),(55,.none)]
def al0{n Q X Y bf}(hb:Y bf=some (.inst 7 []))(hq:∀Y' tx mk ls ce xs d ep,Y' bf=some (gx tx mk ls 1 1 1 1 1 .none .none)->Y' tx=some (iI ce 0 8)->Y' ce=some (.lst xs)->xs.length=8->Y' mk=some (.inst 5 [(17,.ref d)])->Y' d=some (.aP [] ep)->Y' ls=some (.lst [])->ls≠ce->Y tx=none->Y ce=none->Fr [bf] Y Y'->Q .none Y'):(Wn (n+2)).call 9 [.ref bf,.int 1,.str 25] Q X Y:=by
 exact en (fd:=f9) rfl ?_;exact sat hb ?_;exact sat ah ?_;have f0:Fr [bf] Y (put (put Y bf (.inst 7 (up [] 39 (.int 1)))) bf (.inst 7 (up (up [] 39 (.int 1)) 40 (.str 25)))):=(Fr.put (by simp)).trans (.put (by simp));have b0:put (put Y bf (.inst 7 (up [] 39 (.int 1)))) bf (.inst 7 (up (up [] 39 (.int 1)) 40 (.str 25))) bf=some (.inst 7 [(39,.int 1),(40,.str 25)]):=ah;show wSs (Wn (n+1)) (f9.body.drop 2) [(22,.ref bf),(39,.int 1),(40,.str 25),(42,.int 8)] (qN Q) Q X (put (put Y bf (.inst 7 (up [] 39 (.int 1)))) bf (.inst 7 (up (up [] 39 (.int 1)) 40 (.str 25))));generalize put (put Y bf (.inst 7 (up [] 39 (.int 1)))) bf (.inst 7 (up (up [] 39 (.int 1)) 40 (.str 25)))=Y1 at *;intro c1 eo;intro g hg;have uk:bf≠c1:=λe=>by rw[<-e,b0] at eo;cases eo
 have Qg:c1≠g:=λe=>by rw[<-e,ah] at hg;cases hg
 have zS:bf≠g:=λe=>by rw[<-e,ae uk,b0] at hg;cases hg
 have f1:Fr [bf] Y (put (put Y1 c1 (.lst [])) g (.inst 4 [])):=f0.trans ((Fr.new eo).trans (.new hg));have b1:put (put Y1 c1 (.lst [])) g (.inst 4 []) bf=some (.inst 7 [(39,.int 1),(40,.str 25)]):=by rw[ae zS,ae uk];show b0
 have ng:Y g=none:=by
  by_cases e:g=bf
  ·show absurd e.symm zS
  ·cases hs:Y g with
   |none=>rfl
   |some o=>
    have:=((f0.trans (Fr.new (S:=[bf]) (o:=.lst []) eo)) g o hs (by simpa using e))
    nomatch hg,this
 exact am0 ah (by rw[ae Qg];show ah) λY2 ce xs t1 t2 t3 t4 f2=>⟨rfl,?_⟩;have Qh:Fr [bf] Y Y2:=λb o hb hn=>f2 b o (f1 b o hb hn) (by simp;intro e;nomatch e,ng,hb)
 have b2:Y2 bf=some (.inst 7 [(39,.int 1),(40,.str 25)]):=f2 _ _ b1 (by simpa using zS);have pM:bf≠ce:=λe=>by rw[<-e,b2] at t2;cases t2
 have nce:Y ce=none:=by
  cases hs:Y ce with
  |none=>rfl
  |some o=>
   have:=f1 ce o hs (by simpa using aaa pM)
   nomatch t4,this
 clear f1 b1 hg eo f2 Qg uk t4;exact sat b2 ?_;have f3:Fr [bf] Y (put Y2 bf (.inst 7 [(39,.int 1),(40,.str 25),(41,.ref g)])):=Qh.trans (.put (by simp));have b3:put Y2 bf (.inst 7 [(39,.int 1),(40,.str 25),(41,.ref g)]) bf=some (.inst 7 [(39,.int 1),(40,.str 25),(41,.ref g)]):=ah;have HN:put Y2 bf (.inst 7 [(39,.int 1),(40,.str 25),(41,.ref g)]) g=some (iI ce 0 8):=by rw[ae (aaa zS)];show t1
 have yN:put Y2 bf (.inst 7 [(39,.int 1),(40,.str 25),(41,.ref g)]) ce=some (.lst xs):=by rw[ae (aaa pM)];show t2
 show wSs (Wn (n+1)) (f9.body.drop 3) [(22,.ref bf),(39,.int 1),(40,.str 25),(42,.int 8)] (qN Q) Q X (put Y2 bf (.inst 7 [(39,.int 1),(40,.str 25),(41,.ref g)]));generalize put Y2 bf (.inst 7 [(39,.int 1),(40,.str 25),(41,.ref g)])=Y3 at *;clear b2 Qh t1 t2;intro k hk;have HP:bf≠k:=λe=>by rw[<-e,b3] at hk;cases hk
 have gk:g≠k:=λe=>by rw[<-e,HN] at hk;cases hk
 have cek:ce≠k:=λe=>by rw[<-e,yN] at hk;cases hk
 have nk:Y k=none:=by
  cases hs:Y k with
  |none=>rfl
  |some o=>
   have:=f3 k o hs (by simpa using aaa HP)
   nomatch hk,this
 exact ak4 ah λY4 d ep m1 m2 f4=>⟨rfl,?_⟩;have keep:∀b o,b≠k->Y3 b=some o->Y4 b=some o:=λb o hb h=>f4 b o (by rw[ae hb];show h) (by simpa using hb);have b4:=keep _ _ HP b3;have t14:=keep _ _ gk HN;have Qi:=keep _ _ cek yN;have f04:Fr [bf] Y Y4:=λb o hb hn=>keep b o (λe=>by nomatch e,nk,hb) (f3 b o hb hn)
 have bfd:bf≠d:=λe=>by rw[<-e,b4] at m2;cases m2
 clear f4 keep f3 b3 HN yN hk;have key:∀S:So,S bf=some (.inst 7 [(39,.int 1),(40,.str 25),(41,.ref g),(43,.ref k),(44,.int 1),(45,.int 1),(46,.int 1),(47,.none),(48,.bool true),(11,.bool false),(9,.int 1),(49,.int 1),(50,.int 1)])->(∀b,b≠bf->S b=Y4 b)->wSs (Wn (n+1)) (f9.body.drop 13) [(22,.ref bf),(39,.int 1),(40,.str 25),(42,.int 8)] (qN Q) Q X S:=by
  intro S hS ho ls eW;have zV:bf≠ls:=λe=>by rw[<-e,hS] at eW;cases eW
  have Qj:∀b o,b≠bf->Y4 b=some o->b≠ls:=λb o hb h e=>by rw[<-e,ho b hb,h] at eW;cases eW
  have hS1:put S ls (.lst []) bf=some (.inst 7 [(39,.int 1),(40,.str 25),(41,.ref g),(43,.ref k),(44,.int 1),(45,.int 1),(46,.int 1),(47,.none),(48,.bool true),(11,.bool false),(9,.int 1),(49,.int 1),(50,.int 1)]):=by rw[ae zV];show hS
  exact sat hS1 ?_;exact sat ah ?_;exact sat ah ?_;exact sat ah ?_;exact sat ah ?_;exact sat ah ?_;exact sat ah ?_;have fin:∀T:So,T bf=some (gx g k ls 1 1 1 1 1 .none .none)->(∀b,b≠bf->T b=put S ls (.lst []) b)->Q .none T:=by
   intro T hT CC;have tr:∀b o,b≠bf->Y4 b=some o->T b=some o:=λb o hb h=>by
    rw[CC b hb,ae (Qj b o hb h),ho b hb];show h
   exact hq T g k ls ce xs d ep hT (tr _ _ (aaa zS) t14) (tr _ _ (aaa pM) Qi) t3 (tr _ _ (aaa HP) m1) (tr _ _ (aaa bfd) m2) (by rw[CC _ (aaa zV)];show ah) (aaa (Qj _ _ (aaa pM) Qi)) ng nce λb o hb hn=>?_;have gJ:b≠bf:=λe=>hn (by rw[e];show .head _);show tr b o gJ (f04 b o hb hn)
  show fin _ ah λb hb=>by rw[ae hb,ae hb,ae hb,ae hb,ae hb,ae hb,ae hb]
 exact sat b4 ?_;exact sat ah ?_;exact sat ah ?_;exact sat ah ?_;exact sat ah ?_;exact sat ah ?_;exact sat ah ?_;exact sat ah ?_;exact sat ah ?_;exact sat ah ?_;show key _ ah λb hb=>by rw[ae hb,ae hb,ae hb,ae hb,ae hb,ae hb,ae hb,ae hb,ae hb,ae hb]
def widen{n Q X Y tx ce}{w:Int}(h:Y tx=some (iI ce 0 8))(hw:w<=8)(hq:Q .none Y):(Wn (n+1)).call 94 [.ref tx,.int w] Q X Y:=by
 exact en (fd:=Dn) rfl ?_;exact aA h ?_;exact aA h ?_;show wSs (Wn n) (Dn.body.drop 1) [(22,.ref tx),(99,.int w),(124,.int (w-(8-0)))] (qN Q) Q X Y;have hl:w-(8-0)<=0:=⟨"a-(8-0):0,a:8",hw⟩;generalize w-(8-0)=l at *;conv=>whnf
 split<;>rename_i e
 ·simp at e;show absurd e (Int.not_lt.mpr hl)
 ·show hq
def move{n Q X Y tx ce xs}(h:Y tx=some (iI ce 0 8))(hc:Y ce=some (.lst xs))(hx:xs.length=8)(hq:∀Y',Y' tx=some (iI ce 0 8)->Y' ce=some (.lst xs)->Fr [tx,ce] Y Y'->Q .none Y'):(Wn (n+1)).call 91 [.ref tx,.int 0] Q X Y:=by
 have tc:tx≠ce:=λe=>by nomatch e,hc,h
 exact en (fd:=Kd) rfl ?_;exact aA h ?_;exact aA h ?_;exact aA h ?_;exact aA h ?_;exact aA h ?_
 exists hc
 exact⟨by decide,by decide,by rw[hx];unfold big;show⟨"8>100000"⟩,λc dB=>?_⟩;have e0:(xs.take ((8:Int)+0-0).toNat).drop ((8:Int)).toNat=[]:=by
  show(xs.take 8).drop 8=[];show List.drop_eq_nil_of_le (by simp;show⟨"A.8,A.8",Nat.min_le_left _ _⟩)
 rw[e0];have cc:ce≠c:=λe=>by rw[<-e,hc] at dB;cases dB
 have tcc:tx≠c:=λe=>by rw[<-e,h] at dB;cases dB
 have h1:put Y c (.lst []) tx=some (iI ce 0 8):=by rw[ae tcc];show h
 have eo:put Y c (.lst []) ce=some (.lst xs):=by rw[ae cc];show hc
 have fL:put Y c (.lst []) c=some (.lst []):=ah;have f1:Fr [tx,ce] Y (put Y c (.lst [])):=.new dB;generalize put Y c (.lst [])=s1 at *;exact aA h1 ?_;exact aA h1 ?_;exact aA h1 ?_
 exists fL
 exists eo
 rw[fL];exact⟨cc,by decide,by decide,by simp,by rw[hx];simp,?_⟩;have e1:xs.take (0:Int).toNat++[]++xs.drop ((0:Int)+(([]:List V).length:Int)).toNat=xs:=by simp
 rw[e1];have h2:put s1 ce (.lst xs) tx=some (iI ce 0 8):=by rw[ae tc];show h1
 have iG:put s1 ce (.lst xs) ce=some (.lst xs):=ah;have HQ:put s1 ce (.lst xs) c=some (.lst []):=by rw[ae (aaa cc)];show fL
 have f2:Fr [tx,ce] Y (put s1 ce (.lst xs)):=f1.trans (.put (by simp));generalize put s1 ce (.lst xs)=s2 at *;exact aA h2 ?_
 exists HQ
 exact sat h2 ?_;exact sat ah ?_;exact hq _ ah (by rw[ae (aaa tc),ae (aaa tc)];show iG) ((f2.trans (.put (by simp))).trans (.put (by simp)))
def am5{n Q X Y tx ce xs cs ys}(h:Y tx=some (iI ce 0 8))(hc:Y ce=some (.lst xs))(hx:xs.length=8)(hy:Y cs=some (.lst ys))(dr:cs≠ce)(n9:ys.length<=8)(hq:∀Y' dQ,Y' tx=some (iI ce ys.length 8)->Y' ce=some (.lst dQ)->dQ.length=8->Fr [tx,ce] Y Y'->Q .none Y'):(Wn (n+2)).call 78 [.ref tx,.int 0,.ref cs] Q X Y:=by
 have tc:tx≠ce:=λe=>by nomatch e,hc,h
 have csx:cs≠tx:=λe=>by nomatch e,h,hy
 exact en (fd:=J3) rfl ?_
 exists h
 exists hy
 exact widen h ⟨"'A:8,A.8",n9⟩ ?_
 exists h
 exact move h hc hx λs1 h1 eo f1=>?_;have yg:=f1 _ _ hy (by simp;show⟨csx,dr⟩);exact aA h1 ?_
 exists yg
 exists eo
 rw[yg];exact⟨aaa dr,by decide,⟨"0:0+'A"⟩,⟨"0+'A:'B,B~8,A.8;1,-1,1",hx,n9⟩,by unfold big;show⟨"A+B>100000,A~8,B.8",hx,n9⟩,?_⟩;have hl:(xs.take (0:Int).toNat++ys++xs.drop ((0:Int)+(ys.length:Int)).toNat).length=8:=by simp;rw[hx];show Nat.add_sub_cancel' n9
 generalize xs.take (0:Int).toNat++ys++xs.drop ((0:Int)+(ys.length:Int)).toNat=dQ at *;have h2:put s1 ce (.lst dQ) tx=some (iI ce 0 8):=by rw[ae tc];show h1
 have GV:put s1 ce (.lst dQ) cs=some (.lst ys):=by rw[ae dr];show yg
 exists GV
 exact sat (fs':=[(42,.int 8),(73,.ref ce),(74,.int ys.length),(75,.int 8)]) h2 ?_ rfl rfl (by
  show [(42,V.int 8),(73,.ref ce),(74,.int (0+(ys.length:Int))),(75,.int 8)]=_;rw[Int.zero_add])
 show hq _ dQ ah (by rw[ae (aaa tc)];show ah) hl ((f1.trans (.put (by simp))).trans (.put (by simp)))
def am6{n Q X Y bf tx mk ls ct}(h:Y bf=some (gx tx mk ls 1 1 1 ct 1 .none .none))(hq:∀a Y',Fr [] Y Y'->Q (.ref a) Y'):(Wn (n+1)).call 36 [.ref bf,.int 1,.int 1] Q X Y:=by
 exact en (fd:=C8) rfl ?_;intro a ha;have f1:Fr [] Y (put Y a (.tup [.int (if (1:Int)<1 then 1 else 1),.int (if (1:Int)<1 then 1 else 1)])):=.new ha;have h1:=f1.k h
 exists ah
 exact⟨rfl,?_⟩;exact aA h1 ?_;exact aA h1 ?_;intro b hb;show hq b _ (f1.trans (.new hb))
def Qk{n N' R X Y bf ls}{fs:List (Nat×V)}(hm:lk m 3=some (.ref bf))(h:Y bf=some (.inst 7 fs))(hl:lk fs 51=some (.ref ls))(eW:Y ls=some (.lst []))(hq:∀Y',Fr [] Y Y'->N' m Y'):wS (Wn n) (.aS [90] (.bi .lst [(.attr (.v 3) 51)]) [.stop]) m N' R X Y:=by
 show(match lk m 3 with | some (.bA _ _ _)=>False | some v=>m6 (Wn n).cu v 51 (λx=>bi .lst [x] (λv s=>m7 _ v s) Y) Y | Option.none=>False)
 show uG hm (aA h (FH eW (by decide) λc hc=>m9 ah ⟨ah,hq _ (.new hc)⟩) rfl hl)
def c35{n Q X Y bf tx mk ls ct}(h:Y bf=some (gx tx mk ls 1 1 1 ct 1 .none .none))(hq:Q .none Y):(Wn (n+1)).call 35 [.ref bf] Q X Y:=by
 exact en (fd:=C7) rfl ?_;exact aA h ?_;show hq
def c37{n Q X Y bf ls}{fs:List (Nat×V)}(h:Y bf=some (.inst 7 fs))(hl:lk fs 51=some (.ref ls))(eW:Y ls=some (.lst []))(hq:∀Y',Fr [] Y Y'->Q .none Y'):(Wn (n+1)).call 37 [.ref bf,.int i,.int j] Q X Y:=by
 exact en (fd:=Jq) rfl ?_;show Qk (by rfl) h hl eW hq
def c38{n Q X Y bf tx mk ls ce xs cs ys}(hb:Y bf=some (gx tx mk ls 1 1 1 1 1 .none .none))(ht:Y tx=some (iI ce 0 8))(hc:Y ce=some (.lst xs))(hx:xs.length=8)(dr:Y cs=some (.lst ys))(fL:cs≠ce)(n9:ys.length<=8)
  (hq:∀Y' dQ,Y' bf=some (gx tx mk ls 1 (1+ys.length) 1 1 1 .none .none)->Y' tx=some (iI ce ys.length 8)->Y' ce=some (.lst dQ)->dQ.length=8->Fr [bf,tx,ce] Y Y'->Q .none Y'):(Wn (n+3)).call 38 [.ref bf,.int 1,.ref cs] Q X Y:=by
 have e1:bf≠tx:=λe=>by nomatch e,ht,hb
 have e2:bf≠ce:=λe=>by nomatch e,hc,hb
 have e6:bf≠cs:=λe=>by nomatch e,dr,hb
 have vW:cs≠tx:=λe=>by nomatch e,ht,dr
 exact en (fd:=Jr) rfl ?_;exact aA hb ?_;exact aA hb ?_
 exists ht
 exact am5 ht hc hx dr fL n9 λs3 dQ tq iG rg f3=>?_;have fO:=f3 _ _ hb (by simp;show⟨e1,e2⟩);have pN:=f3 _ _ dr (by simp;show⟨vW,fL⟩);exact aA fO ?_
 exists pN
 exact sat fO ?_;exact aA ah ?_;show hq _ dQ ah (by rw[ae (aaa e1)];show tq) (by rw[ae (aaa e2)];show iG) rg ((f3.mono (λb h=>.tail _ h)).trans (.put (by simp)))
def c93{n Q X Y mk d ep}(hk:Y mk=some (.inst 5 [(17,.ref d)]))(hd:Y d=some (.aP [] ep))(hq:∀c,Y c=none->Q (.ref c) (put Y c (.lst []))):(Wn (n+1)).call 93 [.ref mk] Q X Y:=by
 exact en (fd:=Ke) rfl ?_;exact aA hk ?_
 exists hd
 show hq
def c79{n Q X Y mk d ep}(hk:Y mk=some (.inst 5 [(17,.ref d)]))(hd:Y d=some (.aP [] ep))(hq:∀Y',Fr [] Y Y'->Q .none Y'):(Wn (n+2)).call 79 [.ref mk,.int i,.int j,.bool false] Q X Y:=by
 exact en (fd:=uH) rfl ?_
 exists hk
 exact c93 hk hd λc hc=>?_
 exists ah
 show⟨ah,hq _ (.new hc)⟩
def c39{n Q X Y bf tx mk ls pt zv}(h:Y bf=some (gx tx mk ls pt zv 1 1 1 .none .none))(hq:Q .none Y):(Wn (n+1)).call 39 [.ref bf,.int i,.int j,.bool false] Q X Y:=by
 exact en (fd:=Js) rfl ?_;exact aA h ?_;exact aA h ?_;show hq
def c89{n Q X Y bf tx mk ls pt zv}(h:Y bf=some (gx tx mk ls pt zv 1 1 1 .none .none))(hq:∀Y',Y' bf=some (gx tx mk ls pt zv 2 2 1 .none .none)->(∀b,b≠bf->Y' b=Y b)->Q .none Y'):(Wn (n+1)).call 89 [.ref bf,.bool true] Q X Y:=by
 exact en (fd:=pW) rfl ?_;exact aA h ?_;exact sat h ?_;exact aA ah ?_;exact sat ah ?_;show hq _ ah λb hb=>by rw[ae hb,ae hb]
def c40{n Q X Y bf tx mk ls pt zv}{k:Int}(h:Y bf=some (gx tx mk ls pt zv 1 1 1 .none .none))(eW:Y ls=some (.lst []))(hq:∀Y',Y' bf=some (gx tx mk ls pt zv 2 2 1 .none .none)->Fr [bf] Y Y'->Q .none Y'):(Wn (n+2)).call 40 [.ref bf,.int i,.int j,.int k] Q X Y:=by
 have e5:ls≠bf:=λe=>by nomatch e,h,eW
 exact en (fd:=Jt) rfl ?_
 exists h
 exact c89 h λs1 h1 o1=>?_;exact Qk (by rfl) h1 (by rfl) ((o1 _ e5).trans eW) λs2 f2=>?_;exact hq s2 (f2.k h1) λb o hb hn=>f2 b o ((o1 b λe=>hn (by rw[e];show .head _)).trans hb) (by simp)
def amF{n Q X Y bf tx mk ls ce xs d ep cs ys}(hb:Y bf=some (gx tx mk ls 1 1 1 1 1 .none .none))(ht:Y tx=some (iI ce 0 8))(hc:Y ce=some (.lst xs))(hx:xs.length=8)(hk:Y mk=some (.inst 5 [(17,.ref d)]))(hd:Y d=some (.aP [] ep))(eW:Y ls=some (.lst []))(CD:ls≠ce)(dr:Y cs=some (.lst ys))(fL:cs≠ce)(eJ:cs≠ls)(n9:ys.length<=8)
  (hq:∀Y' pt tk ct ge dQ,Y' bf=some (gx tx mk ls pt (1+ys.length) tk ct 1 .none .none)->Y' tx=some (iI ce ys.length ge)->Y' ce=some (.lst dQ)->(dQ.length:Int)-ge+ys.length=ys.length->Y' ls=some (.lst [])->Fr [bf,tx,ce] Y Y'->Q .none Y'):(Wn (n+4)).call 23 [.ref bf,.int 1,.ref cs,.bool false,.bool true] Q X Y:=by
 have e1:bf≠tx:=λe=>by nomatch e,ht,hb
 have e2:bf≠ce:=λe=>by nomatch e,hc,hb
 have e3:bf≠mk:=λe=>by nomatch e,hk,hb
 have e4:bf≠d:=λe=>by nomatch e,hd,hb
 have e5:bf≠ls:=λe=>by nomatch e,eW,hb
 have e6:bf≠cs:=λe=>by nomatch e,dr,hb
 have e7:mk≠tx:=λe=>by nomatch e,ht,hk
 have e8:mk≠ce:=λe=>by nomatch e,hc,hk
 have e9:d≠tx:=λe=>by nomatch e,ht,hd
 have Ql:d≠ce:=λe=>by nomatch e,hc,hd
 have HR:ls≠tx:=λe=>by nomatch e,ht,eW
 have vW:cs≠tx:=λe=>by nomatch e,ht,dr
 exact en (fd:=rF) rfl ?_;exact c35 hb ?_;exact am6 hb λa s1 f1=>?_;have Cr:=f1.k hb;have HS:=f1.k dr
 exists HS
 by_cases hn:ys=[]
 ·subst hn;have:=hq s1 1 1 1 8 xs Cr (f1.k ht) (f1.k hc) (by rw[hx];simp) (f1.k eW) (f1.mono (by simp));show this
 ·have aI:0<ys.length:=List.length_pos_iff.mpr hn;conv=>whnf
  split<;>rename_i g
  ·simp at g;show absurd g hn
  ·exact c37 Cr (by rfl) (f1.k eW) λs2 f2=>?_;have pV:=f1.trans f2;exact c38 (pV.k hb) (pV.k ht) (pV.k hc) hx (pV.k dr) fL n9 λs3 dQ fO tq iG rg f3=>?_;have k3:∀b o,b≠bf->b≠tx->b≠ce->Y b=some o->s3 b=some o:=λb o h0 h1 h2 h=>f3 _ _ (pV.k h) (by simp;show⟨h0,h1,h2⟩);have pN:=k3 _ _ (aaa e6) vW fL dr
   exists pN
   exact sat fO ?_;have key2:∀T:So,T bf=some (gx tx mk ls (1+ys.length) (1+ys.length) 1 1 1 .none .none)->(∀b,b≠bf->T b=s3 b)->wSs (Wn (n+3)) (rF.body.drop 6) [(3,.ref bf),(76,.int 1),(56,.ref cs),(57,.bool false),(77,.bool true)] (qN Q) Q X T:=by
    intro T hT CC;have kT:∀b o,b≠bf->s3 b=some o->T b=some o:=λb o aK h=>by rw[CC b aK];show h
    have Qm:=kT _ _ (aaa e3) (k3 _ _ (aaa e3) e7 e8 hk);have yd:=kT _ _ (aaa e4) (k3 _ _ (aaa e4) e9 Ql hd);have HV:=kT _ _ (aaa e6) pN;have hlT:=kT _ _ (aaa e5) (k3 _ _ (aaa e5) HR CD eW);exact aA hT ?_
    exists Qm
    exists HV
    exact c79 Qm yd λs6 f6=>?_
    exists (f6.k HV)
    exact c39 (f6.k hT) ?_
    exists (f6.k HV)
    exact c40 (f6.k hT) (f6.k hlT) λs7 nY f7=>?_;have k7:∀b o,b≠bf->s3 b=some o->s7 b=some o:=λb o aK h=>f7 _ _ (f6.k (kT b o aK h)) (by simpa using aK);exact hq s7 _ 2 2 8 dQ nY (k7 _ _ (aaa e1) tq) (k7 _ _ (aaa e2) iG) (by rw[rg];show⟨"'8-8+'A='A"⟩) (k7 _ _ (aaa e5) (k3 _ _ (aaa e5) HR CD eW)) λb o aK hV=>?_;have au:b≠bf/\b≠tx/\b≠ce:=by simpa using hV
    show k7 b o au.1 (k3 b o au.1 au.2.1 au.2.2 aK)
   show key2 _ ah λb aK=>ae aK
def amr{n Q X Y bf tx mk ls ce xs d ep cs ys}(hb:Y bf=some (gx tx mk ls 1 1 1 1 1 .none .none))(ht:Y tx=some (iI ce 0 8))(hc:Y ce=some (.lst xs))(hx:xs.length=8)(hk:Y mk=some (.inst 5 [(17,.ref d)]))(hd:Y d=some (.aP [] ep))(eW:Y ls=some (.lst []))(CD:ls≠ce)(dr:Y cs=some (.lst ys))(fL:cs≠ce)(eJ:cs≠ls)(n9:ys.length<=8)
  (hq:∀Y' pt tk ct ge dQ,Y' bf=some (gx tx mk ls pt (1+ys.length) tk ct 1 .none .none)->Y' tx=some (iI ce ys.length ge)->Y' ce=some (.lst dQ)->(dQ.length:Int)-ge+ys.length=ys.length->Y' ls=some (.lst [])->Fr [bf,tx,ce] Y Y'->Q .none Y'):(Wn (n+5)).call 10 [.ref bf,.ref cs] Q X Y:=by
 have e1:bf≠tx:=λe=>by nomatch e,ht,hb
 have e2:bf≠ce:=λe=>by nomatch e,hc,hb
 have e3:bf≠mk:=λe=>by nomatch e,hk,hb
 have e4:bf≠d:=λe=>by nomatch e,hd,hb
 have e5:bf≠ls:=λe=>by nomatch e,eW,hb
 have e6:bf≠cs:=λe=>by nomatch e,dr,hb
 have e7:mk≠tx:=λe=>by nomatch e,ht,hk
 have e8:mk≠ce:=λe=>by nomatch e,hc,hk
 have e9:d≠tx:=λe=>by nomatch e,ht,hd
 have Ql:d≠ce:=λe=>by nomatch e,hc,hd
 have HR:ls≠tx:=λe=>by nomatch e,ht,eW
 have vW:cs≠tx:=λe=>by nomatch e,ht,dr
 have HW:tx≠ce:=λe=>by nomatch e,hc,ht
 exact en (fd:=kN) rfl ?_;exact aA hb ?_;exact amF hb ht hc hx hk hd eW CD dr fL eJ n9 hq
def pO(x p:Nat)(N:Int):List Nd:=if 0<N then [(x,N,p)] else []
def ale{n Q X Y tr p}{N:Int}(ht:Y tr=some (.inst 2 []))(hN:0<=N)(hq:∀Y' x,Tree Y' tr (pO x p N)->Fr [tr] Y Y'->Q .none Y'):(Wn (n+2)).call 24 [.ref tr,.int N,.ref p] Q X Y:=by
 exact en (fd:=Jh) rfl ?_;by_cases g:0<N
 ·have main:∀x,Y x=none->(Wn (n+1)).call 41 [.ref x,.int N,.ref p] (λv s'=>v=.none/\jS (Wn (n+1)).cu (.ref tr) 79 (.ref x) (λs=>Q .none s) s') aN (put Y x (.inst 1 [])):=λx hx=>by
   have HX:tr≠x:=λe=>by rw[<-e,ht] at hx;cases hx
   exact OI ah λs1 h1 o1=>⟨rfl,?_⟩;have jZ:s1 tr=some (.inst 2 []):=by rw[o1 tr HX,ae HX];show ht
   exact sat jZ ?_;exact hq _ x ?_ λb o hb hn=>?_
   ·have e:pO x p N=[(x,N,p)]:=if_pos g;rw[e];have z:Z (put s1 tr (.inst 2 [(79,.ref x)])) tr (.nd x .nil .nil N p) []:=⟨⟨by rw[ae (aaa HX)];show h1,trivial,trivial⟩,trivial,by simp[T.ag,ax],ah⟩;exact⟨_,z,?_,λe he=>by simp at he;subst he;show g⟩;show([]:List Nd)++(x,N-0-0,p)::[]=_;simp
   ·have HY:b≠tr:=λe=>hn (by rw[e];show .head _);have lQ:b≠x:=λe=>by nomatch e,hx,hb
    rw[ae HY,o1 b lQ,ae lQ];show hb
  show(match decide (0<N) with
   |true=>∀x,Y x=none->(Wn (n+1)).call 41 [.ref x,.int N,.ref p] (λv s'=>v=.none/\jS (Wn (n+1)).cu (.ref tr) 79 (.ref x) (λs=>Q .none s) s') aN (put Y x (.inst 1 []))
   |false=>jS (Wn (n+1)).cu (.ref tr) 79 .none (λs=>Q .none s) Y)
  rw[dJ g];show main
 ·show(match decide (0<N) with
   |true=>∀x,Y x=none->(Wn (n+1)).call 41 [.ref x,.int N,.ref p] (λv s'=>v=.none/\jS (Wn (n+1)).cu (.ref tr) 79 (.ref x) (λs=>Q .none s) s') aN (put Y x (.inst 1 []))
   |false=>jS (Wn (n+1)).cu (.ref tr) 79 .none (λs=>Q .none s) Y)
  rw[fS g];exact sat ht ?_;exact hq _ 0 ?_ (.put (by simp));have e:pO 0 p N=[]:=if_neg g;rw[e];show⟨.nil,⟨trivial,trivial,by simp[T.ag,ax],ah⟩,rfl,by simp⟩
def aoy{n Q X Y tp}{N:Int}(ht:Y tp=some (.inst 3 []))(hN:0<=N)(hq:∀Y' tr x p,Y' tp=some (k9 tr)->Tree Y' tr (pO x p N)->Y' p=some (.lst [])->Fr [tp] Y Y'->Q .none Y'):(Wn (n+3)).call 11 [.ref tp,.int N] Q X Y:=by
 exact en (fd:=nh) rfl ?_;intro p hp;intro tr lY;have f1:Fr [tp] Y (put (put Y p (.lst [])) tr (.inst 2 [])):=(Fr.new hp).trans (.new lY);have e1:tp≠p:=λe=>by rw[<-e,ht] at hp;cases hp
 have e2:p≠tr:=λe=>by rw[<-e,ah] at lY;cases lY
 have e3:tp≠tr:=λe=>by rw[<-e,ae e1,ht] at lY;cases lY
 have Gl:Y tr=none:=by
  cases hs:Y tr with
  |none=>rfl
  |some o=>
   by_cases q:tr=p
   ·show absurd q.symm e2
   ·nomatch ae q,hs,lY
 exact ale ah hN λs1 x t1 f2=>⟨rfl,?_⟩;have k:∀b o,b≠tr->put Y p (.lst []) b=some o->s1 b=some o:=λb o hb h=>f2 b o (by rw[ae hb];show h) (by simpa using hb);have jZ:=k _ _ e3 (by rw[ae e1];show ht);have hp1:=k _ _ e2 (ah (o:=.lst []));have nds:∀b∈fu (pO x p N),b≠tp:=λb hb e=>by
  obtain⟨A,B,m,q,e'⟩:=pg hb;rw[e'] at t1;obtain⟨_,_,_,_,h⟩:=t1.node
  nomatch e,jZ,h
 exact sat jZ ?_;exact hq _ tr x p ah (t1.fr (λb hb=>ae (nds b hb)) (ae (aaa e3))) (by rw[ae (aaa e1)];show hp1) λb o hb hn=>?_;have HY:b≠tp:=λe=>hn (by rw[e];show .head _);have hbr:b≠tr:=λe=>by nomatch e,Gl,hb
 have hbp:b≠p:=λe=>by nomatch e,hp,hb
 rw[ae HY];show k b o hbr (by rw[ae hbp];show hb)
def an1{n Q X Y ul}(hu:Y ul=some (.inst 8 []))(hq:∀Y' ra,Y' ul=some (nS ra none)->Y' ra=some (.lst [])->Y ra=none->Fr [ul] Y Y'->Q .none Y'):(Wn (n+1)).call 25 [.ref ul] Q X Y:=by
 exact en (fd:=Ji) rfl ?_;intro ra fB;have e1:ul≠ra:=λe=>by rw[<-e,hu] at fB;cases fB
 exact sat (by rw[ae e1];show hu) ?_;exact sat ah ?_;exact sat ah ?_;exact sat ah ?_;exact sat ah ?_;exact hq _ ra ah (by rw[ae (aaa e1),ae (aaa e1),ae (aaa e1),ae (aaa e1),ae (aaa e1)];show ah) fB λb o hb hn=>?_;have um:b≠ul:=λe=>hn (by rw[e];show .head _);rw[ae um,ae um,ae um,ae um,ae um,ae λe=>by nomatch e,fB,hb];show hb
def aos{n Q X Y un}(hu:Y un=some (.inst 10 []))(hq:∀Y' ul ra,Y' un=some (.inst 10 [(15,.ref ul)])->Y' ul=some (nS ra none)->Y' ra=some (.lst [])->Y ra=none->Fr [un] Y Y'->Q .none Y'):(Wn (n+2)).call 12 [.ref un] Q X Y:=by
 exact en (fd:=pV) rfl ?_;intro ul Cy;have e1:un≠ul:=λe=>by rw[<-e,hu] at Cy;cases Cy
 exact an1 ah λs1 ra u1 r1 n1 f1=>⟨rfl,?_⟩;have k:∀b o,b≠ul->Y b=some o->s1 b=some o:=λb o hb h=>f1 b o (by rw[ae hb];show h) (by simpa using hb);have HZ:=k _ _ e1 hu;have e2:ra≠un:=λe=>by nomatch e,HZ,r1
 have nra:Y ra=none:=by
  cases hs:Y ra with
  |none=>rfl
  |some o=>
   by_cases q:ra=ul
   ·nomatch q,u1,r1
   ·nomatch ae q,hs,n1
 exact sat HZ ?_;exact hq _ ul ra ah (by rw[ae (aaa e1)];show u1) (by rw[ae e2];show r1) nra λb o hb hn=>?_;have um:b≠un:=λe=>hn (by rw[e];show .head _);rw[ae um];show k b o (λe=>by nomatch e,Cy,hb) hb
def M0:Nat->Mp:=λ_ _=>none
def alX{n Q X Y bf tx mk ls pt zv tk ct}(h:Y bf=some (gx tx mk ls pt zv tk ct 1 .none .none))(hq:∀Y',Y' bf=some (gx tx mk ls pt zv tk ct tk .none .none)->(∀b,b≠bf->Y' b=Y b)->Q .none Y'):(Wn (n+1)).call 85 [.ref bf,.bool false] Q X Y:=by
 exact en (fd:=Dl) rfl ?_;exact aA h ?_;exact sat h ?_;show hq _ ah λb hb=>ae hb
def ah4{n Q X Y}{N:Int}(bF:0<=N)(hN:N<=8)(H0:Y 884=some (.tup [.str 16]))(hq:∀Y' c ra tk,c.N=N->Bs c Y' ra false tk tk none [] M0->Fr [] Y Y'->(∀b o,Y b=some o->b≠c.ce/\b≠ra)->Q (.ref c.bf) Y'):(Wn (n+6)).call 3 [.int N] Q X Y:=by
 exact en (fd:=f3) rfl ?_;intro bf gJ;exact al0 ah λs1 tx mk ls ce xs d ep b1 b2 b3 b4 b5 b6 b7 b8 nx nc f1=>⟨rfl,?_⟩;have k1:Fr [] Y s1:=λb o hb _=>f1 b o (by rw[ae λe=>by nomatch e,gJ,hb];show hb) (by simp;intro e;nomatch e,gJ,hb)
 exact⟨⟨by decide,by decide,dX (by decide) bF,by dsimp only[big];show⟨"a<'100000,a:8",hN⟩⟩,?_⟩;exact HK (λi acc s=>(acc.length:Int)=i/\s=s1) 0 N bF ?_ ?_ _ _ ⟨rfl,rfl⟩
 ·rintro i acc s i0 i1 ⟨hl,rfl⟩ K hK;show hK _ _ ⟨by simp;show⟨"'A=a,'A=a;1,1;1,-1",hl⟩,rfl⟩
 ·rintro acc s ⟨hl,rfl⟩;exact⟨by dsimp only[big];show⟨"A>100000,a:8,'A=a",hN,hl⟩,λcs dr=>?_⟩;have f2:Fr [] s (put s cs (.lst acc)):=.new dr;have ne:∀b o,s b=some o->cs≠b:=λb o hb e=>by nomatch e,hb,dr
  exact amr (f2 _ _ b1 (by simp)) (f2 _ _ b2 (by simp)) (f2 _ _ b3 (by simp)) b4 (f2 _ _ b5 (by simp)) (f2 _ _ b6 (by simp)) (f2 _ _ b7 (by simp)) b8 ah (ne _ _ b3) (ne _ _ b7) ⟨"A.8,a:8,'A=a",hN,hl⟩ λs3 pt tk ct ge dQ c1 c2 c3 c4 c5 f3=>?_;rw[hl] at c1 c2 c4;have nb:∀b o,Y b=some o->b≠bf/\b≠tx/\b≠ce:=λb o hb=>by
   have q1:b≠bf:=λe=>by nomatch e,gJ,hb
   exact⟨q1,λe=>?_,λe=>?_⟩
   ·have:put Y bf (.inst 7 []) b=some o:=by rw[ae q1];show hb
    nomatch e,nx,this
   ·have:put Y bf (.inst 7 []) b=some o:=by rw[ae q1];show hb
    nomatch e,nc,this
  have k3:Fr [] Y s3:=λb o hb _=>f3 b o (f2 _ _ (k1 _ _ hb (by simp)) (by simp)) (by simp;show nb b o hb)
  exists c1
  exact alX c1 λs4 e1 o4=>?_;have nbf:Y bf=none:=gJ;have k4:Fr [] Y s4:=λb o hb _=>by rw[o4 b (nb b o hb).1];show k3 b o hb (by simp)
  have xb:bf≠tx:=λe=>by nomatch e,c2,c1
  have cb:bf≠ce:=λe=>by nomatch e,c3,c1
  have lb:bf≠ls:=λe=>by nomatch e,c5,c1
  have e2:=(o4 _ (aaa xb)).trans c2;have e3:=(o4 _ (aaa cb)).trans c3;have e5:=(o4 _ (aaa lb)).trans c5;clear o4 c1 c2 c3 c5 f3 f2 k3;intro tp fy;have Qn:∀b o,s4 b=some o->b≠tp:=λb o hb e=>by nomatch e,fy,hb
  exact aoy ah bF λs5 tr x p g1 g2 g3 f5=>⟨rfl,?_⟩;have k5:∀b o,s4 b=some o->s5 b=some o:=λb o hb=>f5 b o (by rw[ae (Qn b o hb)];show hb) (by simpa using Qn b o hb);intro un hun;have H3:∀b o,s5 b=some o->b≠un:=λb o hb e=>by nomatch e,hun,hb
  exact aos ah λs6 ul ra u1 u2 u3 u4 f6=>⟨rfl,?_⟩;have k6:∀b o,s5 b=some o->s6 b=some o:=λb o hb=>f6 b o (by rw[ae (H3 b o hb)];show hb) (by simpa using H3 b o hb);have uo:∀b o,s4 b=some o->s6 b=some o:=λb o hb=>k6 b o (k5 b o hb);have ran:∀b o,s5 b=some o->b≠ra:=λb o hb e=>by
   have:put s5 un (.inst 10 []) b=some o:=by rw[ae (H3 b o hb)];show hb
   nomatch e,u4,this
  have t6:Tree s6 tr (pO x p N):=g2.aB λb o hb _=>k6 b o hb;intro w hw;have f7:Fr [] s6 (put s6 w (.tup [.ref tp,.ref un])):=.new hw
  exists ah
  exact⟨rfl,?_⟩;have b7':=f7 _ _ (uo _ _ e1) (by simp);exact sat b7' ?_;exact sat ah ?_;have fin:∀S:So,S bf=some (gx tx mk ls pt (1+N) tk ct tk (.ref un) (.ref tp))->(∀b,b≠bf->S b=put s6 w (.tup [.ref tp,.ref un]) b)->Q (.ref bf) S:=by
   intro S hS hSo;have kS:∀b o,b≠bf->s6 b=some o->S b=some o:=λb o hb h=>by rw[hSo b hb];show f7 b o h (by simp)
   have nbn:∀b o,s6 b=some o->o≠gx tx mk ls pt (1+N) tk ct tk .none .none->b≠bf:=λb o h hn e=>by
    nomatch e,uo _ _ e1,h;show hn rfl
   have kk:∀b o,s6 b=some o->o≠gx tx mk ls pt (1+N) tk ct tk .none .none->S b=some o:=λb o h hn=>kS b o (nbn b o h hn) h;have hN1:(1+N:Int)=N+1:=Int.add_comm _ _;rw[hN1] at hS;exact hq S ⟨bf,tx,mk,ls,un,ul,tp,tr,ce,pt,ct,N,8,N,ge⟩ ra tk rfl ⟨hS,kk _ _ u1 (by simp),kk _ _ u2 (by simp),⟨[],kk _ _ u3 (by simp),.nil⟩,⟨kk _ _ (uo _ _ e5) (by simp),ran _ _ (k5 _ _ e5)⟩,kk _ _ (uo _ _ e2) (by simp),⟨dQ,kk _ _ (uo _ _ e3) (by simp),c4,ran _ _ (k5 _ _ e3)⟩,kk _ _ (k6 _ _ g1) (by simp),?_,kk _ _ (uo _ _ (k4 _ _ H0 (by simp))) (by simp)⟩ (λb o hb _=>?_) λb o hb=>⟨(nb b o hb).2.2,ran b o (k5 b o (k4 b o hb (by simp)))⟩
   ·obtain⟨v,hv⟩:=t6.rt;have tS:Tree S tr (pO x p N):=t6.fr (λb hb=>by
     obtain⟨A,B,m,q,e'⟩:=pg hb;have Qo:=t6;rw[e'] at Qo;obtain⟨_,_,_,_,h⟩:=Qo.node;rw[h];show kk _ _ h (by simp)) (by rw[hv];show kk _ _ hv (by simp))
    exact⟨_,tS,?_,λi q hi=>?_⟩
    ·dsimp only[pO];by_cases g:0<N
     ·rw[if_pos g];show N+0=N;show⟨"a+0=a"⟩
     ·rw[if_neg g];show(0:Int)=N;show⟨"0=a,0:a,!0<a;1,1,0;1,0,1",bF,g⟩
    ·have bG:q=p:=by
      dsimp only[pO] at hi;by_cases g:0<N
      ·rw[if_pos g] at hi;have:bW [(x,N,p)]=List.replicate N.toNat p:=by dsimp only[bW];simp
       rw[this,List.getElem?_replicate] at hi;split at hi
       ·cases hi;rfl
       ·cases hi
      ·rw[if_neg g] at hi;simp[bW] at hi
     rw[bG];show⟨ran _ _ g3,[],⟨[],kk _ _ (k6 _ _ g3) (by simp),.nil⟩,⟨by simp,by simp⟩,λk=>rfl⟩
   ·show kS b o (nb b o hb).1 (uo _ _ (k4 b o hb (by simp)))
  show fin _ ah λb hb=>by rw[ae hb,ae hb]
class inductive ie(N sv:Int):List Row->List (Nat->Mp)->(Nat->Mp)->Prop
 |nil:ie N sv [] [] M0
 |first {M' G}:mC N M0 M' G->G≠[]->ie N sv (.dP sv::G) [M0] M'
 |snoc {C Ms M M' G}:ie N sv C Ms M->C≠[]->mC N M M' G->G≠[]->ie N sv (C++[.aW]++G) (Ms++[M]) M'
theorem mC.Qp{N M M' G}(h:mC N M M' G):∀r∈G,pE r=false:=λr hr=>by
 obtain⟨_,_,_,_,e,_⟩:=h.ok r hr;subst e;rfl
def ie.km{N sv C Ms M}(h:ie N sv C Ms M)(hc:C≠[]):km C=false:=by
 have key:∀(A G:List Row),G≠[]->(∀r∈G,pE r=false)->Tactic.km (A++G)=false:=λA G hG hn=>by
  obtain⟨G',g,rfl⟩:∃G' g,G=G'++[g]:=⟨_,_,(List.dropLast_concat_getLast hG).symm⟩;unfold Tactic.km;rw[<-kJ,List.getLast?_append];simp;show hn g (by simp)
 cases h with
 |nil=>show absurd rfl hc
 |first g1 g2=>show key [.dP sv] _ g2 g1.Qp
 |snoc _ _ g1 g2=>show key _ _ g2 g1.Qp
def ie.ms{N sv C Ms M}(h:ie N sv C Ms M):C=[]↔Ms=[]:=by
 cases h with
 |nil=>simp
 |first=>simp
 |snoc=>simp
def amv{L:List Row}:km (L++[.aW])=true:=by unfold km;simp;rfl
def bd(C:List Row):List Row:=if C=[] then [] else C++[.aW]
def Qq{N sv C Ms M}(h:ie N sv C Ms M){L:List Row}(hL:L=C\/L=C++[.aW]/\C≠[]):(if km L then L else L++[.aW])=bd C:=by
 unfold bd;rcases hL with rfl | ⟨rfl,hc⟩
 ·by_cases hc:L=[]
  ·subst hc;rfl
  ·rw[h.km hc,if_neg hc];rfl
 ·rw[amv,if_neg hc];rfl
theorem vX{Y dk d0 j x}{as:List Nat}(h:Dk Y dk d0 j)(hx:Y x=some (.lst (as.map V.ref))):x≠dk:=λe=>by
 obtain⟨l,h1,_⟩:=h.d;rw[e,h1] at hx;have:[V.ref d0,V.int j]=as.map V.ref:=by injection hx with hx;injection hx
 rcases as with _ | ⟨a,_ | ⟨b,_⟩⟩<;>simp at this
def DL.lj{ra bM Y s x M N xs}(h:DL Y x M N)(f:pH ra bM Y s)(hx:x≠ra)(hr:Y ra=some (.lst xs)):DL s x M N:=by
 obtain⟨as,h1,h2⟩:=h;show⟨as,(f _ _ h1 (λ_ _ e=>by cases e) hx).1,h2.fr λa es ep e=>(f _ _ e (λ_ _ e=>by cases e) λq=>by nomatch q,hr,e).1⟩
def DL.jm{dk d0 Y s x M N j}(h:DL Y x M N)(f:kC dk Y s)(hd:Dk Y dk d0 j):DL s x M N:=by
 obtain⟨as,h1,h2⟩:=h;exact⟨as,f _ _ h1 (vX hd h1),h2.fr λa es ep e=>f _ _ e λq=>?_⟩;obtain⟨l,g1,_⟩:=hd.d
 nomatch q,g1,e
def UR.refs{Y vs L}(h:UR Y vs L):∃as:List Nat,vs=as.map V.ref:=by
 induction h with
 |nil=>show⟨[],rfl⟩
 |@cons a r vs L h1 h2 ih=>obtain⟨as,rfl⟩:=ih;show⟨a::as,rfl⟩
def Bs.jm{c Y Y' ra rd tk sv nt L M dk d0 j}(h:Bs c Y ra rd tk sv nt L M)(f:kC dk Y Y')(hd:Dk Y dk d0 j)(vV:c.ce≠dk):Bs c Y' ra rd tk sv nt L M:=by
 obtain⟨l,g1,_⟩:=hd.d;obtain⟨xs,h1,h2⟩:=h.rows;obtain⟨ys,h3,h4,h5⟩:=h.ce;obtain⟨v,hv⟩:=h.tree.ex.choose_spec.1.rt;have g:∀{b o},Y b=some o->(∀xs,o≠.lst xs)->Y' b=some o:=λ{b o} e n=>f _ _ e λq=>by nomatch q,g1,e;show n _ rfl
 obtain⟨as,eas⟩:=h2.refs;have fB:ra≠dk:=vX hd (eas ▸ h1);have eW:c.ls≠dk:=vX (as:=[]) hd h.ls.1;exact⟨g h.bf (by simp),g h.un (by simp),g h.ul (by simp),⟨xs,f _ _ h1 fB,h2.fr λa xs e=>g e (by simp)⟩,⟨f _ _ h.ls.1 eW,h.ls.2⟩,g h.tx (by simp),⟨ys,f _ _ h3 vV,h4,h5⟩,g h.tp (by simp),?_,g h.aW (by simp)⟩;obtain⟨sq,a,b,d⟩:=h.tree;exact⟨sq,a.fr (λx hx=>?_) ?_,b,λi p hp=>?_⟩
 ·obtain⟨A,B,n,p,rfl⟩:=pg hx;obtain⟨_,_,_,_,e⟩:=a.node;rw[e];show g e (by simp)
 ·obtain⟨w,hw⟩:=a.rt;rw[hw];show g hw (by simp)
 ·obtain⟨q0,l,⟨vs,q1,q2⟩,q3,q4⟩:=d i p hp;have pd:p≠dk:=λe=>by
   nomatch e,g1,q1
   cases q2 with
   |cons _ q=>cases q
  show⟨q0,l,⟨vs,f _ _ q1 pd,q2.fr λx xs hx=>g hx (by simp)⟩,q3,q4⟩
def St(Y:So)(ra:Nat)(N:Int)(ss:List Nat)(Ms:List (Nat->Mp)):Prop:=ss.length=Ms.length/\∀(i:Nat) s M,ss[i]?=some s->Ms[i]?=some M->s≠ra/\DL Y s M N
def St.app{Y ra N ss Ms s M}(h:St Y ra N ss Ms)(hs:s≠ra)(hd:DL Y s M N):St Y ra N (ss++[s]) (Ms++[M]):=by
 exact⟨by simp[h.1],λi t M' h1 h2=>?_⟩;rcases iX i ss.length with q | q
 ·rw[mV q] at h1;rw[mV (by rw[<-h.1];show q)] at h2;show h.2 i t M' h1 h2
 ·rw[oj q] at h1;rw[oj (by rw[<-h.1];show q)] at h2;rw[<-h.1] at h2;rcases Nat.eq_zero_or_pos (i-ss.length) with e | e
  ·rw[e] at h1 h2;simp at h1 h2;subst h1;subst h2;show⟨hs,hd⟩
  ·nomatch iV (by simp;show⟨"1.A,0>A",e⟩),h1
def St.lj{ra bM Y s N ss Ms xs}(h:St Y ra N ss Ms)(f:pH ra bM Y s)(hr:Y ra=some (.lst xs)):St s bM N ss Ms:=by
 exact⟨h.1,λi t M h1 h2=>?_⟩;obtain⟨a,b⟩:=h.2 i t M h1 h2;obtain⟨as,b1,_⟩:=id b;show⟨(f _ _ b1 (λ_ _ e=>by cases e) a).2,b.lj f a hr⟩
theorem St.jm{dk d0 ra Y s N ss Ms j}(h:St Y ra N ss Ms)(f:kC dk Y s)(hd:Dk Y dk d0 j):St s ra N ss Ms:=⟨h.1,λi t M h1 h2=>⟨(h.2 i t M h1 h2).1,(h.2 i t M h1 h2).2.jm f hd⟩⟩
theorem St.aB{ra Y s N ss Ms}(h:St Y ra N ss Ms)(f:Fr [] Y s):St s ra N ss Ms:=⟨h.1,λi t M h1 h2=>⟨(h.2 i t M h1 h2).1,(h.2 i t M h1 h2).2.aB f⟩⟩
def Dk.bI{Y Y' dk d0 j ra xs L}(h:Dk Y dk d0 j)(f:bD ra Y Y')(hr:Y ra=some (.lst xs))(hu:UR Y xs L)(hd:d0≠ra):Dk Y' dk d0 j:=by
 obtain⟨as,e⟩:=hu.refs;have:ra≠dk:=vX h (e ▸ hr);obtain⟨⟨l,h1,h2,h3,h4⟩,g0,g1⟩:=h;show⟨⟨l,f _ _ h1 (λ_ _ e=>by cases e) (aaa this),f _ _ h2 (λ_ _ e=>by cases e) hd,h3,h4⟩,g0,g1⟩
def ahQ(N:Int)(d:De)(rd:Bool)(M:Nat->Mp):cj N d rd M=.str 34\/cj N d rd M=.str 35\/cj N d rd M=.bool false\/cj N d rd M=.bool true:=by
 unfold cj;split
 ·simp
 ·split
  ·simp
  ·split
   ·simp
   ·split<;>simp
def Qr:List Sm:=match f0.body.drop 3 with
 | .aS _ _ b::_=>b
 |_=>[]
def q8(a dk:Nat)(N:Int)(bf x st:Nat):Env:=[(1,.ref a),(0,.ref dk),(2,.int N),(3,.ref bf),(4,.ref x),(5,.ref st)]
def zW(a dk:Nat)(N:Int)(bf x st:Nat)(u7 u8 u9 ew ey iT dR:V):Env:=[(1,.ref a),(0,.ref dk),(2,.int N),(3,.ref bf),(4,.ref x),(5,.ref st),(7,u7),(8,u8),(9,u9),(12,ew),(13,ey),(17,iT),(19,dR)]
structure Iv(c:Cf)(sv:Int)(Y:So)(dk d0 ra x st:Nat)(i:Int)(rd:Bool)(tk:Int)(nt:Option Int)(L C:List Row)(M:Nat->Mp)(Ms:List (Nat->Mp))(ss:List Nat)(j:Int):Prop where
 bs:Bs c Y ra rd tk sv nt L M
 bZ:ie c.N sv C Ms M
 core:L=C\/L=C++[.aW]/\C≠[]
 fl:(C=[]->tk=sv/\nt=none)/\(C≠[]->sv<tk/\nt=some sv)
 deck:Dk Y dk d0 j
 hj:j<=2+10 * i
 uq:d0≠ra
 uw:c.ce≠dk
 own:x≠ra/\DL Y x M c.N
 ig:Y st=some (.lst (ss.map V.ref))/\st≠ra/\St Y ra c.N ss Ms
 len:(C.length:Int)<=70 * i
def Iv.bI{c sv Y Y' dk d0 ra x st i rd tk nt L C M Ms ss j rd' tk' nt' L'}(h:Iv c sv Y dk d0 ra x st i rd tk nt L C M Ms ss j)(f:bD ra Y Y')(hb:Bs c Y' ra rd' tk' sv nt' L' M):Dk Y' dk d0 j/\DL Y' x M c.N/\Y' st=some (.lst (ss.map V.ref))/\St Y' ra c.N ss Ms:=by
 obtain⟨xs,hx,hu⟩:=h.bs.rows;show⟨h.deck.bI f hx hu h.uq,h.own.2.lj f.x h.own.1 hx,f _ _ h.ig.1 (λ_ _ e=>by cases e) h.ig.2.1,h.ig.2.2.lj f.x hx⟩
def Iv.Qs{c sv Y dk d0 ra x st i rd tk nt L C M Ms ss j}(h:Iv c sv Y dk d0 ra x st i rd tk nt L C M Ms ss j):L.length<=C.length+1:=by
 rcases h.core with e | e
 ·rw[e];show⟨"A.A+1"⟩
 ·rw[e.1];simp
def Qt(C:List Row):(bd C).length<=C.length+1:=by unfold bd;split<;>simp
def CF{K:Bool->So->Prop}{X:Nat->So->Prop}(hm:lk m y=some (.int j))(h:K (decide (j<i)) s):wE W (.v y) m (λw s=>cmp .gt (.int i) w (λt=>K t s) s) X s:=by
 show match lk m y with
  |some (.bA _ _ _)=>False
  |some v=>cmp .gt (.int i) v (λt=>K t s) s
  |Option.none=>False
 rw[hm];show h
def al9(C:List Row):bd C=C\/bd C=C++[.aW]/\C≠[]:=by
 unfold bd;by_cases h:C=[]
 ·rw[if_pos h];show .inl h.symm
 ·rw[if_neg h];show .inr ⟨rfl,h⟩
def ie.Qu{N sv C Ms M}(h:ie N sv C Ms M):Ms.length<=C.length:=by
 induction h with
 |nil=>simp
 |first g1 g2=>simp
 |snoc _ _ _ g ih=>
  have:=List.length_pos_iff.mpr g;simp;show⟨"A+1.B+(C+1),A.B,0>C",ih,this⟩
def ie.Qv{N sv C Ms M}(h:ie N sv C Ms M)(hc:C=[]):Ms=[]/\M=M0:=by
 cases h with
 |nil=>show⟨rfl,rfl⟩
 |first=>cases hc
 |snoc=>simp at hc
def aiC{N sv C Ms M M' G tk nt}(h:ie N sv C Ms M)(fl:(C=[]->tk=sv/\nt=none)/\(C≠[]->sv<tk/\nt=some sv))(gr:mC N M M' G)(gn:G≠[]):ie N sv (bd C++pc tk sv nt++G) (Ms++[M]) M':=by
 by_cases hc:C=[]
 ·obtain⟨e1,e2⟩:=fl.1 hc;subst hc;have hp:pc tk sv nt=[.dP sv]:=by unfold pc;rw[if_pos ⟨⟨"a:b,a=b",e1⟩,by rw[e2];simp⟩]
  have hb:bd []=[]:=by unfold bd;rw[if_pos rfl]
  rw[hp,hb];obtain⟨rfl,rfl⟩:=h.Qv rfl;show .first gr gn
 ·obtain⟨e1,e2⟩:=fl.2 hc;have hp:pc tk sv nt=[]:=by unfold pc;rw[if_neg (λe=>⟨"_,a<b,b:a;0,1,1",e1,e.1⟩)]
  have hb:bd C=C++[.aW]:=by unfold bd;rw[if_neg hc]
  rw[hp,hb,de];show .snoc h hc gr gn
def pJ.fr{Y Y' a d}(h:pJ Y a d)(f:∀a xs,Y a=some (.tup xs)->Y' a=some (.tup xs)):pJ Y' a d:=by
 obtain⟨t,h1,h2⟩:=h;show⟨t,f _ _ h1,f _ _ h2⟩
theorem kC.tup{dk Y Y' d0 j}(f:kC dk Y Y')(hd:Dk Y dk d0 j):∀a xs,Y a=some (.tup xs)->Y' a=some (.tup xs):=λa xs h=>f _ _ h λe=>by
 obtain⟨l,g,_⟩:=hd.d
 nomatch e,g,h
abbrev rh(a dk:Nat)(N:Int)(bf x st:Nat)(ex:Env):Env:=(1,.ref a)::(0,.ref dk)::(2,.int N)::(3,.ref bf)::(4,.ref x)::(5,.ref st)::ex
def Qw{Q:V->So->Prop}{X:Nat->So->Prop}(hm:lk m y=some v)(hv:v=.str 34\/v=.str 35\/v=.bool false)(h:Q v s):wE W (.v y) m Q X s:=by
 show match lk m y with
  |some (.bA _ _ _)=>False
  |some v=>Q v s
  |Option.none=>False
 rw[hm];rcases hv with rfl | rfl | rfl<;>show h
theorem aqH{K:Bool->So->Prop}{X:Nat->So->Prop}(hm:lk m y=some v)(hv:v=.str 34\/v=.str 35\/v=.bool false)(h:K false s):wE W (.v y) m (λw s=>cmp .ne v w (λt=>K t s) s) X s:=
 Qw hm hv (by rcases hv with rfl | rfl | rfl<;>show h)
def ap2{x:Nat}{l:List Sm}{N R X}(hm:lk m y=some v)(hv:v=.str 34\/v=.str 35\/v=.bool false)(h:wSs W l (Tactic.up m x (.bool false)) N R X s):wSs W (.asg (.v x) (.isTrue (.v y))::l) m N R X s:=by
 show wE W (.v y) m (λv s=>match v with
  | .bool b=>wSs W l (Tactic.up m x (.bool b)) N R X s
  | .str k=>k<125/\wSs W l (Tactic.up m x (.bool false)) N R X s
  |_=>False) X s
 exact Qw hm hv ?_;rcases hv with rfl | rfl | rfl
 ·show⟨(by decide:34<125),h⟩
 ·show⟨(by decide:35<125),h⟩
 ·show h
def turn{n Q a c sv Y dk d0 ra x st rd tk nt L C M Ms ss j}{env:Env}{K:Env->So->Prop}(h:Iv c sv Y dk d0 ra x st i rd tk nt L C M Ms ss j)(hi0:0<=i)(hi:i<9)(bF:0<=c.N)(hN:c.N<=8)
  (ao:env=q8 a dk c.N c.bf x st\/∃u7 u8 u9 ew ey iT dR,env=zW a dk c.N c.bf x st u7 u8 u9 ew ey iT dR)
  (hK:∀Y' x' ft rd' tk' nt' L' C' M' cM fQ j',Iv c sv Y' dk d0 ra x' ft (i+1) rd' tk' nt' L' C' M' cM fQ j'->∀u7 u8 u9 ew ey iT dR,K (zW a dk c.N c.bf x' ft u7 u8 u9 ew ey iT dR) Y')
  : fJ [7] (.int i) env (λm'=>wSs (Wn (n+13)) Qr m' K Q aN Y) Y:=by
 have pI:=h.hj;obtain⟨e6,rfl,hs⟩:∃e6,env=rh a dk c.N c.bf x st e6/\Suf [7,8,9,12,13,17,19] e6:=by
  rcases ao with rfl | ⟨u7,u8,u9,ew,ey,iT,dR,rfl⟩
  ·show⟨[],rfl,.none _⟩
  ·show⟨_,rfl,⟨[u7,u8,u9,ew,ey,iT,dR],rfl⟩⟩
 clear ao;obtain⟨e7,hs,u7⟩:=hs.up;obtain⟨e8,hs,u8⟩:=hs.up;obtain⟨e9,hs,u9⟩:=hs.up;obtain⟨vW,hs,ew⟩:=hs.up;obtain⟨HW,hs,ey⟩:=hs.up;obtain⟨qU,hs,iT⟩:=hs.up;obtain⟨e19,hs,dR⟩:=hs.up;have hs:=hs.nil;subst hs;show wSs (Wn (n+13)) Qr (rh a dk c.N c.bf x st (Tactic.up e6 7 (.int i))) K Q aN Y;rw[u7];exact deed h.deck ⟨"a+10<1000,b<9,a:2+10*b;1,10,1",hi,pI⟩ bF λad d s1 lG ak zX f1=>?_;have pP:=h.bs.jm f1 h.deck h.uw
 exists pP.bf
 exact G6 pP ?_;intro w hw;have f2:Fr [] s1 (put s1 w (.tup [.ref ad,.int tk])):=.new hw
 exists ah
 exact⟨rfl,?_⟩;show wSs (Wn (n+13)) _ (rh a dk c.N c.bf x st ((7,.int i)::Tactic.up (Tactic.up e7 8 (.ref ad)) 9 (.int tk))) K Q aN _;rw[u8,show Tactic.up ((8,V.ref ad)::e8) 9 (.int tk)=(8,V.ref ad)::(9,.int tk)::e9 from congrArg _ (u9 _)];exact draw (zX.new f2) ⟨"a+6<1000,b<9,a:2+10*b;1,10,1",hi,pI⟩ (by decide) λr s3 r0 r1 H4 o3=>?_;have CG:=(f1.trans f2.jm).trans (pL o3);have iS:=h.bs.jm CG h.deck h.uw;have H5:s3 st=some (.lst (ss.map V.ref)):=CG _ _ h.ig.1 (vX h.deck h.ig.1);have h3:Iv c sv s3 dk d0 ra x st (i+1) rd tk nt L C M Ms ss (j+6+1):=⟨iS,h.bZ,h.core,h.fl,H4,⟨"a+6+1:2+10*(b+1),a:2+10*b",pI⟩,h.uq,h.uw,⟨h.own.1,h.own.2.jm CG h.deck⟩,⟨H5,h.ig.2.1,h.ig.2.2.jm CG h.deck⟩,by have:=h.len;show⟨"'A:70*(a+1),'A:70*a",this⟩⟩;have zY:pJ s3 ad d:=(lG.fr (λa xs e=>f2 a _ e (by simp))).fr (kC.tup (pL o3) (zX.new f2));exact sat iS.bf ?_;have ri:=iS.Cp (rd':=decide (r=5)) (tk':=tk) (sv':=sv);have f4:bD ra s3 (put s3 c.bf (vN c (decide (r=5)) tk sv)):=.inst iS.bf;obtain⟨H6,CJ,H7,mQ⟩:=h3.bI f4 ri;obtain⟨xs3,rg,_⟩:=iS.rows;have ux:=zY.fr (f4.tup rg);have h4:Iv c sv (put s3 c.bf (vN c (decide (r=5)) tk sv)) dk d0 ra x st (i+1) (decide (r=5)) tk nt L C M Ms ss (j+6+1):=⟨ri,h.bZ,h.core,h.fl,H6,⟨"a+6+1:2+10*(b+1),a:2+10*b",pI⟩,h.uq,h.uw,⟨h.own.1,CJ⟩,⟨H7,h.ig.2.1,mQ⟩,by have:=h.len;show⟨"'A:70*(a+1),'A:70*a",this⟩⟩;generalize qR:decide (r=5)=pQ at *;exact aA ri.bf ?_;exact ap7 CJ bF hN ux ak λw5 x' s5 f5 hw5 vY hn5 ht5=>?_;have h5:Iv c sv s5 dk d0 ra x st (i+1) pQ tk nt L C M Ms ss (j+6+1):=⟨ri.aB f5,h.bZ,h.core,h.fl,H6.new f5,⟨"a+6+1:2+10*(b+1),a:2+10*b",pI⟩,h.uq,h.uw,⟨h.own.1,CJ.aB f5⟩,⟨f5.k H7,h.ig.2.1,mQ.aB f5⟩,by have:=h.len;show⟨"'A:70*(a+1),'A:70*a",this⟩⟩;have b9:=h.len;have mR:=h.Qs;have gL:=Qt C;have H8:=ux.fr λa xs e=>f5 a _ e (by simp);have mS:x'≠ra:=λe=>by
  rcases vY with vY | vY
  ·show h.own.1 (vY ▸ e)
  ·obtain⟨xs4,hx4,_⟩:=ri.rows;rw[e] at vY;have q:=vY.symm.trans hx4;cases q
 clear h4 ri f4 H6 CJ H7 mQ ux zY h3 f5
 exists hw5
 exact⟨rfl,?_⟩;show wSs (Wn (n+13)) _ (rh a dk c.N c.bf x st ((7,.int i)::(8,.ref ad)::(9,.int tk)::Tactic.up (Tactic.up e9 12 (cj c.N d pQ M)) 13 (.ref x'))) K Q aN _;rw[ew,show Tactic.up ((12,cj c.N d pQ M)::vW) 13 (.ref x')=(12,cj c.N d pQ M)::(13,.ref x')::HW from congrArg _ (ey _)];exact aA h5.bs.bf ?_;exact aA h5.bs.un ?_
 exists h5.bs.ul
 exact boundary h5.bs ⟨"A>90000,a<9,'B:70*a,A.B+1;1,70,1,1",hi,b9,mR⟩ λs6 jM f6=>?_;rw[Qq h.bZ h.core] at jM;obtain⟨Qx,CK,Qy,zZ⟩:=h5.bI f6 jM;obtain⟨xs5,uy,_⟩:=h5.bs.rows;have z6:=H8.fr (f6.tup uy);obtain⟨z7,vZ,Qz⟩:=jM.rows;exact aA jM.bf ?_;exact aA jM.un ?_;exact aA jM.ul ?_
 exists vZ
 show wSs (Wn (n+13)) _ (rh a dk c.N c.bf x st ((7,.int i)::(8,.ref ad)::(9,.int tk)::(12,cj c.N d pQ M)::(13,.ref x')::Tactic.up HW 17 (.int z7.length))) K Q aN _;rw[iT];have hv:=ahQ c.N d pQ M;rw[<-or_assoc,<-or_assoc,or_assoc (a:=cj c.N d pQ M=V.str 34)] at hv;rcases hv with hv | hv
 rotate_left 1
 ·have pT:=(ht5 hv).lj f6.x mS uy;exact done jM ⟨"A>50000,a<9,'B:70*a,A.B+1;1,70,1,1",hi,b9,gL⟩ bF hN z6 ak (λe=>absurd hv e) (λ_ s7 G v5 gr gn gl f7=>?_);rw[hv];have z8:=pT.lj f7.x mS vZ;have H9:=CK.lj f7.x h.own.1 vZ;have dk7:=Qx.bI f7 vZ Qz h.uq;have st7:=f7 _ _ Qy (λ_ _ e=>by cases e) h.ig.2.1;have Ia:=zZ.lj f7.x vZ;exact shown v5 bF hN λa7 s8 f8 uz=>?_;exact HM (by rfl) (z8.aB f8) bF hN λa9 s9 f9 z9=>?_;exact .inl ⟨_,_,uz.fr f9,z9,q9 _ _,q9 _ _,?_⟩;rw[CB];have pW:=f8.trans f9;have lu:=v5.aB pW;obtain⟨xs9,za,hu9⟩:=lu.rows;have l6:=Qz.len;have l9:=hu9.len;have Ib:=List.length_pos_iff.mpr gn;have hpc:=G8 (tk:=tk) (sv:=sv) (nt:=nt);show wSs (Wn (n+13)) _ (rh a dk c.N c.bf x st ((7,.int i)::(8,.ref ad)::(9,.int tk)::(12,.bool true)::(13,.ref x')::(17,.int z7.length)::Tactic.up qU 19 (.bool true))) K Q aN _;rw[dR]
  exists lu.bf
  exact G6 lu ?_;exact CF (by rfl) ?_;rw[dJ (show tk<tk+1 from by show⟨"a<a+1"⟩)];exact aA lu.bf ?_;exact aA lu.un ?_;exact aA lu.ul ?_
  exists za
  exact CF (by rfl) ?_;rw[dJ (show((z7.length:Nat):Int)<((xs9.length:Nat):Int) by simp at l9;show⟨"'A<'B,A~C,0>D,B~C+(E+D);1,1,1,-1",l6,Ib,l9⟩)];intro w10 Ic;have kN:Fr [] s9 (put s9 w10 (.lst [.ref x])):=.new Ic;have ssl:ss.length<=1000:=by
   have a1:=h.ig.2.2.1;have a2:=h.bZ.Qu;show⟨"A.1000,a<9,'B:70*a,A~C,C.B;1,70,1,1,1",hi,b9,a1,a2⟩
  exact yD (kN.k (pW.k st7)) ah (by simp;unfold big;show⟨"A+1>100000,A.1000",ssl⟩) λft Aa=>?_;have fz:=(pW.trans kN).trans (Fr.tQ (o:=.lst (ss.map V.ref++[.ref x])) Aa);intro w11 Ab;have nh:=fz.trans (Fr.tQ (o:=.tup [.ref ft,.ref x']) Ab)
  exists ah
  exact⟨rfl,?_⟩;have Ac:ft≠ra:=λe=>by
   nomatch e,(pW.trans kN).k (show s7 ra=_ from (v5.rows.choose_spec.1)),Aa
  have Ad:(Tactic.put (Tactic.put (Tactic.put s9 w10 (.lst [.ref x])) ft (.lst (ss.map V.ref++[.ref x]))) w11 (.tup [.ref ft,.ref x'])) ft=some (.lst ((ss++[x]).map V.ref)):=by
   rw[List.map_append];show(Fr.tQ (o:=.tup [.ref ft,.ref x']) Ab).k ah
  exact hK _ x' ft _ _ _ _ _ _ _ _ _ ⟨v5.aB nh,aiC h.bZ h.fl gr gn,.inl rfl,⟨λe=>absurd e (by simp[gn]),λ_=>?_⟩,dk7.new nh,⟨"a+6+1:2+10*(b+1),a:2+10*b",pI⟩,h.uq,h.uw,⟨mS,z8.aB nh⟩,⟨Ad,Ac,(Ia.aB nh).app h.own.1 (H9.aB nh)⟩,by simp;show⟨"'A+('B+'C):70*(a+1),'D:70*a,A.D+1,C.60,B.1",b9,gL,gl,hpc⟩⟩ _ _ _ _ _ _ _;by_cases hc:C=[]
  ·obtain⟨e1,e2⟩:=h.fl.1 hc;show⟨⟨"a<b+1,b=a;1,-1",e1⟩,by unfold fE;rw[if_pos ⟨"a:b,a=b",e1⟩]⟩
  ·obtain⟨e1,e2⟩:=h.fl.2 hc;show⟨⟨"a<b+1,a<b",e1⟩,by unfold fE;rw[if_neg ⟨"!a:b,b<a",e1⟩];show e2⟩
 ·have pT:=(hn5 (by rcases hv with e | e | e<;>rw[e]<;>simp)).lj f6.x mS uy;exact done jM ⟨"A>50000,a<9,'B:70*a,A.B+1;1,70,1,1",hi,b9,gL⟩ bF hN z6 ak (λ_ s7 f7=>?_) (λe=>by rcases hv with q | q | q<;>rw[q] at e<;>cases e);exact aqH (by rfl) hv ?_;exact shown (jM.aB f7) bF hN λa7 s8 f8 uz=>?_;exact HM (by rfl) (pT.aB (f7.trans f8)) bF hN λa9 s9 f9 z9=>?_;exact .inl ⟨_,_,uz.fr f9,z9,q9 _ _,q9 _ _,?_⟩;rw[CB];have uH:=(f7.trans f8).trans f9;have lu:=jM.aB uH;have za:=uH.k vZ;show wSs (Wn (n+13)) [.asg (.v 19) (.isTrue (.v 12)),_,_] (rh a dk c.N c.bf x st ((7,.int i)::(8,.ref ad)::(9,.int tk)::(12,cj c.N d pQ M)::(13,.ref x')::(17,.int z7.length)::qU)) K Q aN s9;exact ap2 (by rfl) hv ?_;show wSs (Wn (n+13)) _ (rh a dk c.N c.bf x st ((7,.int i)::(8,.ref ad)::(9,.int tk)::(12,cj c.N d pQ M)::(13,.ref x')::(17,.int z7.length)::Tactic.up qU 19 (.bool false))) K Q aN _;rw[dR]
  exists lu.bf
  exact G6 lu ?_;exact CF (by rfl) ?_;rw[fS (Int.lt_irrefl _)];exact aA lu.bf ?_;exact aA lu.un ?_;exact aA lu.ul ?_
  exists za
  exact CF (by rfl) ?_;rw[fS (Int.lt_irrefl _)];intro w9 hw9
  exists ah
  exact⟨rfl,?_⟩;have fz:=uH.trans (Fr.tQ (o:=.tup [.ref st,.ref x']) hw9);show hK _ x' st _ _ _ _ _ _ _ _ _ ⟨jM.aB fz,h.bZ,al9 C,h.fl,Qx.new fz,⟨"a+6+1:2+10*(b+1),a:2+10*b",pI⟩,h.uq,h.uw,⟨mS,pT.aB fz⟩,⟨fz.k Qy,h.ig.2.1,zZ.aB fz⟩,⟨"'A:70*(a+1),'A:70*a",b9⟩⟩ _ _ _ _ _ _ _
abbrev CL(a dk:Nat)(N:Int)(bf x st:Nat)(u7 u8 u9 ew ey:V)(oa:Nat)(dR:V)(at_:Int)(ex:Env):Env:=(1,.ref a)::(0,.ref dk)::(2,.int N)::(3,.ref bf)::(4,.ref x)::(5,.ref st)::(7,u7)::(8,u8)::(9,u9)::(12,ew)::(13,ey)::(17,.ref oa)::(19,dR)::(6,.int at_)::ex
structure Iu(c:Cf)(sv:Int)(s:So)(bh rev:Nat)(vs:List V)(LL:List Row)(its:List V)(rest:List V)(at_:Int)(ra:Nat)(tk' sv':Int)(nt:Option Int)(L C:List Row)(Ms:List (Nat->Mp))(M:Nat->Mp)(B T:List Row)(ss:List Nat):Prop where
 rest:rest=(ss.map V.ref).reverse
 at_:at_=((C++B).length:Nat)
 bs:Bs c s ra false tk' sv' nt L M
 bZ:ie c.N sv C Ms M
 ll:LL=C++B++T
 bb:∀r∈B,r=.aW
 oa:s bh=some (.lst vs)/\bh≠ra
 ur:UR s vs LL
 ig:St s ra c.N ss Ms
 f1:Ms≠[]->sv'=sv/\sv<tk'/\L.length+8 * C.length<=20000
 f0:Ms=[]->sv'=tk'
 rv:s rev=some (.lst its)/\rev≠ra
def ajV{n Q c sv s bh rev vs LL its v rest at_ ra tk' sv' nt L C Ms M B T ss}{K:V->Int->So->Prop}(h:Iu c sv s bh rev vs LL its (v::rest) at_ ra tk' sv' nt L C Ms M B T ss)(bF:0<=c.N)(hN:c.N<=8)
  (hK:∀s' x M' at' bM kz uA nt' L' C' cM B' T' fQ,v=.ref x->Iu c sv s' bh rev vs LL its rest at' bM kz uA nt' L' C' cM M' B' T' fQ->DL s' x M' c.N->Q (.int at') s')
  : (Wn (n+13)).call 8 [.ref c.bf,.ref bh,.int at_] Q aN s:=by
 obtain⟨fQ,x,ess⟩:∃fQ x,ss=fQ++[x]:=by
  cases ss with
  |nil=>have:=h.rest;simp at this
  |cons y ys=>show⟨_,_,(List.dropLast_concat_getLast (by simp)).symm⟩
 have fw:=h.rest;subst ess;have e0:(((fQ++[x]).map V.ref)).reverse=.ref x::(fQ.map V.ref).reverse:=by simp
 rw[e0] at fw;injection fw with ev er;obtain⟨q1,q2⟩:=h.ig;have QB:Ms≠[]:=λe=>by rw[e] at q1;simp at q1
 obtain⟨v7,kZ,hlen⟩:=h.f1 QB;obtain⟨xs,fM,_⟩:=h.bs.rows;have r6:=h.at_;have pG:=h.ll;have Ae:=h.bZ;have v8:=h.ur;have Ba:∀cM M1,Ms=cM++[M1]->x≠ra/\DL s x M1 c.N:=λcM M1 e=>by
  have hl:fQ.length=cM.length:=by rw[e] at q1;simpa using q1
  show q2 fQ.length x M1 (by simp) (by rw[e,hl];simp)
 have stM:∀cM M1,Ms=cM++[M1]->St s ra c.N fQ cM:=λcM M1 e=>by
  have hl:fQ.length=cM.length:=by rw[e] at q1;simpa using q1
  exact⟨hl,λi t M2 h1 h2=>q2 i t M2 ?_ ?_⟩
  ·have:i<fQ.length:=by
    rcases iX i fQ.length with g | g
    ·show g
    ·nomatch iV g,h1
   rw[mV this];show h1
  ·have:i<cM.length:=by
    rcases iX i cM.length with g | g
    ·show g
    ·nomatch iV g,h2
   rw[e,mV this];show h2
 have go:∀(P U G:List Row) (cM:List (Nat->Mp)) (M1:Nat->Mp) (C' B':List Row),C=P++(U++G)->Ms=cM++[M1]->mC c.N M1 M G->G≠[]->(P=[]\/∃P',P=P'++[.aW])->(U=[]\/U=[.dP sv])->P=C'++B'->(∀r∈B',r=.aW)->ie c.N sv C' cM M1->(U=[]->cM≠[])->(U≠[]->cM=[])->(Wn (n+13)).call 8 [.ref c.bf,.ref bh,.int at_] Q aN s:=by
  intro P U G cM M1 C' B' eC eM hG Hs hP hU eP vT hH hU1 hU2;rw[r6,eC];rw[pG,eC] at v8;have QC:C.length=P.length+(U.length+G.length):=by rw[eC];simp
  have hPl:P.length=C'.length+B'.length:=by rw[eP];simp
  exact ahU (T:=T) h.bs ⟨"a<b,a=c,c<b",v7,kZ⟩ ⟨"A+8*B>50000,A+8*C.20000,C~D+(E+B);1,1,-8",hlen,QC⟩ bF hN h.oa.1 h.oa.2 v8 h.bb hP (by rw[v7];show hU) hG Hs λs' bM kz uA zJ aK jj jc fx=>?_;have Ie:=v8.fr λa ys ha=>(fx a _ ha (λ_ _ e=>by cases e) λe=>by nomatch e,fM,ha).1
  obtain⟨lx,ld⟩:=Ba cM M1 eM;exact hK s' x M1 _ bM kz uA nt zJ C' cM B' ((U++G)++B++T) fQ ev ⟨er,by rw[eP],aK,hH,by rw[pG,eC,eP];simp,vT,⟨(fx _ _ h.oa.1 (λ_ _ e=>by cases e) h.oa.2).1,(fx _ _ h.oa.1 (λ_ _ e=>by cases e) h.oa.2).2⟩,by rw[pG,eC];show Ie,(stM cM M1 eM).lj fx fM,λhm=>?_,λhm=>?_,⟨(fx _ _ h.rv.1 (λ_ _ e=>by cases e) h.rv.2).1,(fx _ _ h.rv.1 (λ_ _ e=>by cases e) h.rv.2).2⟩⟩ (ld.lj fx lx fM)
  ·by_cases hu:U=[]
   ·rw[if_pos hu] at jj;rcases jc with jc | jc
    ·show⟨⟨"a=b,c=b,a=c;1,1,1;1,-1,-1",v7,jj.1⟩,⟨"a<b,c=a,d=c,d<b;1,-1,-1,1",v7,jj.1,jj.2⟩,⟨"A+8*B.20000,C+8*D.20000,D~E+(F+G),E~B+H,A.C+8*G;1,1,-8,-8,1",hlen,QC,hPl,jc⟩⟩
    ·show absurd hu jc
   ·show absurd (hU2 hu) hm
  ·by_cases hu:U=[]
   ·show absurd hm (hU1 hu)
   ·rw[if_neg hu] at jj;show jj
 cases Ae with
 |nil=>show absurd rfl QB
 |@first M' G g1 g2=>show go [] [.dP sv] G [] M0 [] [] rfl rfl g1 g2 (.inl rfl) (.inr rfl) rfl (by simp) .nil (by simp) (by simp)
 |@snoc C' cM M1 M' G g1 g2 g3 g4=>
  show go (C'++[.aW]) [] G cM M1 C' [.aW] (by simp) rfl g3 g4 (.inr ⟨C',rfl⟩) (.inl rfl) rfl (by simp) g1 (λ_ e=>g2 (g1.ms.mpr e)) (by simp)
def amP{e:Nat}(he:s e=some (.lst []))(k:Nat):gD s ((List.replicate k [V.ref e]).flatten) (n8 k M0):=by
 induction k with
 |zero=>show .nil
 |succ k ih=>
  rw[List.replicate_succ',List.flatten_append,HL];show ih.app (.cons (.lst he .nil) .nil)
inductive LU(a dk:Nat)(c:Cf)(x st:Nat)(u7 u8 u9 ew ey dR:V)(bh rev:Nat)(sv:Int)(vs:List V)(LL:List Row)(its rest:List V)(env:Env)(s:So):Prop
 |mk (at_ bM tk' sv' nt' L' C' cM M' B T fQ ex):env=CL a dk c.N c.bf x st u7 u8 u9 ew ey bh dR at_ ex->Suf [20] ex->Iu c sv s bh rev vs LL its rest at_ bM tk' sv' nt' L' C' cM M' B T fQ->LU a dk c x st u7 u8 u9 ew ey dR bh rev sv vs LL its rest env s
def amX{n Q a c sv Y dk d0 ra x st rd tk nt L C M Ms ss j}{u7 u8 u9 ew ey iT dR:V}(h:Iv c sv Y dk d0 ra x st i rd tk nt L C M Ms ss j)(hi:i<=9)(bF:0<=c.N)(hN:c.N<=8)(hq:∀s,Q (.bool true) s)
  : wSs (Wn (n+13)) (f0.body.drop 4) (zW a dk c.N c.bf x st u7 u8 u9 ew ey iT dR) (qN Q) Q aN Y:=by
 have b9:=h.len;have mR:=h.Qs;have gL:=Qt C;obtain⟨xs0,E5,w7⟩:=h.bs.rows;have go:∀S:So,Bs c S ra false tk sv nt L M->bD ra Y S->wSs (Wn (n+13)) (f0.body.drop 5) (zW a dk c.N c.bf x st u7 u8 u9 ew ey iT dR) (qN Q) Q aN S:=by
  intro S pP f1;obtain⟨dk1,dl1,st1,Ih⟩:=h.bI f1 pP;exact aA pP.bf ?_;exact aA pP.un ?_
  exists pP.ul
  exact boundary pP ⟨"A>90000,a:9,'B:70*a,A.B+1;1,70,1,1",hi,b9,mR⟩ λs2 kE f2=>?_;rw[Qq h.bZ h.core] at kE;obtain⟨xs1,bT,HZ⟩:=pP.rows;have st2:=f2 _ _ st1 (λ_ _ e=>by cases e) h.ig.2.1;have Ii:=Ih.lj f2.x bT;obtain⟨vs,jw,v8⟩:=kE.rows;have uV:=v8.len;exact aA kE.bf ?_;exact aA kE.un ?_;exact aA kE.ul ?_
  exists jw
  exact⟨by unfold big;show⟨"A>100000,a:9,'B:70*a,C.B+1,A~C;1,70,1,1,1",hi,b9,gL,uV⟩,λbh QD=>?_⟩;have f3:Fr [] s2 (put s2 bh (.lst vs)):=.new QD;have iS:=kE.aB f3;have Ij:bh≠ra:=λe=>by nomatch e,jw,QD
  have Af:put s2 bh (.lst vs) bh=some (.lst vs):=ah;have st3:=f3.k st2;have Ik:=Ii.aB f3;have ur3:=v8.fr λa ys e=>f3 a _ e (by simp);generalize put s2 bh (.lst vs)=s3 at *
  exists Af
  exists st3
  have ssl:ss.length<=1000:=by
   have a1:=h.ig.2.2.1;have a2:=h.bZ.Qu;show⟨"A.1000,a:9,'B:70*a,A~C,C.B;1,70,1,1,1",hi,b9,a1,a2⟩
  exact⟨by simp;unfold big;show⟨"A>100000,A.1000",ssl⟩,λrev Ag=>?_⟩;have f4:Fr [] s3 (put s3 rev (.lst (ss.map V.ref).reverse)):=.new Ag;obtain⟨ws,Hv,_⟩:=iS.rows;have Ah:rev≠ra:=λe=>by nomatch e,Hv,Ag
  have Ai:put s3 rev (.lst (ss.map V.ref).reverse) rev=some (.lst (ss.map V.ref).reverse):=ah;have ri:=iS.aB f4;have Il:=f4.k Af;have mQ:=Ik.aB f4;have ur4:=ur3.fr λa ys e=>f4 a _ e (by simp)
  exists Ai
  generalize put s3 rev (.lst (ss.map V.ref).reverse)=s4 at *;have iu:Iu c sv s4 bh rev vs (bd C) (ss.map V.ref).reverse (ss.map V.ref).reverse ((vs.length:Nat):Int) ra tk sv nt (bd C) C Ms M (if C=[] then [] else [.aW]) [] ss:=by
   have eb:bd C=C++(if C=[] then [] else [.aW])++[]:=by
    unfold bd;by_cases hc:C=[]
    ·rw[if_pos hc,if_pos hc,hc];rfl
    ·rw[if_neg hc,if_neg hc];simp
   exact⟨rfl,?_,ri,h.bZ,eb,λr hr=>?_,⟨Il,Ij⟩,ur4,mQ,λhm=>?_,λhm=>?_,⟨Ai,Ah⟩⟩
   ·rw[uV];conv=>lhs;rw[eb]
    simp
   ·split at hr
    ·cases hr
    ·simpa using hr
   ·have hc:C≠[]:=λe=>hm (h.bZ.ms.mp e);show⟨rfl,(h.fl.2 hc).1,⟨"A+8*B.20000,a:9,'B:70*a,A.B+1;1,630,9,1",hi,b9,gL⟩⟩
   ·show(h.fl.1 (h.bZ.ms.mpr hm)).1.symm
  exact lT (LU a dk c x st u7 u8 u9 ew ey dR bh rev sv vs (bd C) (ss.map V.ref).reverse) ?_ ?_ ?_ _ _ _ ⟨_,_,_,_,_,_,_,_,_,_,_,_,[],rfl,.none _,iu⟩
  ·rintro _ _ s ⟨_,_,_,_,_,_,_,_,_,_,_,_,_,_,_,h⟩;show h.rv.1
  ·rintro v rest env s ⟨at_,bM,tk',sv',nt',L',C',cM,M',B,T,fQ,ex,rfl,hx,rj⟩ K hK;have step:∀(s':So) (Aj:Nat) (M2:Nat->Mp) (at':Int) (Ak:Nat) (nE Al:Int) (Am:Option Int) (L2 C2:List Row) (An:List (Nat->Mp)) (B2 T2:List Row) (Ao:List Nat),Iu c sv s' bh rev vs (bd C) (ss.map V.ref).reverse rest at' Ak nE Al Am L2 C2 An M2 B2 T2 Ao->DL s' Aj M2 c.N->wSs (Wn (n+13)) [.iff (.cmp .ne (.call 7 [(.v 3)]) (.comp (.items (.v 18)) [18] (.v 20) [])) [.ret (.cB false)] []] (CL a dk c.N c.bf x st u7 u8 u9 ew ey bh dR at' [(20,.ref Aj)]) K Q aN s':=by
    intro s' Aj M2 at' Ak nE Al Am L2 C2 An B2 T2 Ao eV hd2;exact shown eV.bs bF hN λa7 s8 f8 uz=>?_;exact HM (by rfl) (hd2.aB f8) bF hN λa9 s9 f9 z9=>?_;exact .inl ⟨_,_,uz.fr f9,z9,q9 _ _,q9 _ _,?_⟩;rw[CB];have f:=f8.trans f9;show hK _ _ ⟨at',Ak,nE,Al,Am,L2,C2,An,M2,B2,T2,Ao,_,rfl,⟨[_],rfl⟩,⟨eV.rest,eV.at_,eV.bs.aB f,eV.bZ,eV.ll,eV.bb,⟨f.k eV.oa.1,eV.oa.2⟩,eV.ur.fr (λa ys e=>f a _ e (by simp)),eV.ig.aB f,eV.f1,eV.f0,⟨f.k eV.rv.1,eV.rv.2⟩⟩⟩
   show wSs (Wn (n+13)) _ (CL a dk c.N c.bf x st u7 u8 u9 ew ey bh dR at_ (Tactic.up ex 20 v)) K Q aN s;rw[hx.up1];exact ajV (K:=λ_ _ _=>True) rj bF hN λs' Aj M2 at' Ak nE Al Am L2 C2 An B2 T2 Ao ev eV hd2=>?_;subst ev;show step s' Aj M2 at' Ak nE Al Am L2 C2 An B2 T2 Ao eV hd2
  ·rintro env s ⟨at_,bM,tk',sv',nt',L',C',cM,M',B,T,fQ,ex,rfl,hx,rj⟩;have hss:fQ=[]:=by
    have:=rj.rest;have h2:(fQ.map V.ref).reverse.length=0:=by rw[<-this];rfl
    simpa using h2
   have QF:cM=[]:=by
    have:=rj.ig.1;rw[hss] at this;show lA.mp this.symm
   have hM0:=(rj.bZ.Qv (rj.bZ.ms.mpr QF)).2;have v7:=rj.f0 QF;have bs:=rj.bs;rw[hM0] at bs;have last:∀ex,wE (Wn (n+13)) (.cmp .eq (.call 7 [(.v 3)]) (.ar .rep (.list [(.list [])]) (.v 2))) (CL a dk c.N c.bf x st u7 u8 u9 ew ey bh dR at_ ex) Q aN s:=by
    intro ex;exact shown bs bF hN λa7 s8 f8 uz=>?_;intro c1 eo;intro c2 dB;have g1:Fr [] s8 (put s8 c1 (.lst [])):=.new eo;have g2:Fr [] (put s8 c1 (.lst [])) (put (put s8 c1 (.lst [])) c2 (.lst [.ref c1])):=.new dB;exact Qe ah ⟨⟨"0:a,0:a",bF⟩,⟨"a<200,a:8",hN⟩,by simp;show⟨"a<200,a:8",hN⟩⟩ λc3 iG=>?_;have g3:Fr [] (put (put s8 c1 (.lst [])) c2 (.lst [.ref c1])) (put (put (put s8 c1 (.lst [])) c2 (.lst [.ref c1])) c3 (.lst (List.replicate c.N.toNat [V.ref c1]).flatten)):=.new iG;have he:=g3.k (g2.k (ah (Y:=s8) (a:=c1) (o:=.lst [])));exact .inl ⟨_,_,uz.fr ((g1.trans g2).trans g3),.lst ah (amP he c.N.toNat),q9 _ _,q9 c.N M0,?_⟩;have:=CB c.N M0;show Q (.bool (Da.eq (uj c.N M0) (uj c.N M0))) _;rw[this];show hq _
   have l:=last ex
   exists bs.bf
   exact G5 bs ?_;rw[fS (show ¬ sv'<tk' from by show⟨"!a<b,a=b;1,-1",v7⟩)];show l
 exact sat h.bs.bf ?_;show go _ (h.bs.Cp (rd':=false) (tk':=tk) (sv':=sv)) (.inst h.bs.bf)
inductive LI(a dk:Nat)(c:Cf)(sv:Int)(d0 ra:Nat)(i:Int)(env:Env)(s:So):Prop
 |mk {x st rd tk nt L C M Ms ss j}:Iv c sv s dk d0 ra x st i rd tk nt L C M Ms ss j->((i=0/\env=q8 a dk c.N c.bf x st)\/∃u7 u8 u9 ew ey iT dR,env=zW a dk c.N c.bf x st u7 u8 u9 ew ey iT dR)->LI a dk c sv d0 ra i env s
def plain_law(n a:Nat)(l:List Int)(ha:a≠884)(hl:l.length<=63):(Wn (n+14)).call 0 [.ref a] (λv _=>v=.bool true) aN (put (put (λ_=>none) 884 (.tup [.str 16])) a (.cO (l.map V.int))):=by
 have BH:put (put (λ_=>none) 884 (.tup [.str 16])) a (.cO (l.map V.int)) a=some (.cO (l.map V.int)):=ah;have Ap:put (put (λ_=>none) 884 (.tup [.str 16])) a (.cO (l.map V.int)) 884=some (.tup [.str 16]):=by rw[ae (aaa ha)];show ah
 generalize put (put (λ_=>none) 884 (.tup [.str 16])) a (.cO (l.map V.int))=Y at *;exact en (fd:=f0) rfl ?_;exact amC BH (by simp;unfold big;show⟨"A>100000,A.63",hl⟩) λc1 eo=>?_;generalize q1:put Y c1 (.lst (l.map V.int))=t1;have p1:t1 c1=some (.lst (l.map V.int)):=q1 ▸ ah;have h1:t1 884=some (.tup [.str 16]):=q1 ▸ (Fr.new eo).k Ap
 exists p1
 exact⟨by decide,by simp;unfold big;show⟨"A>100000,A.63",hl⟩,λd0 gW=>?_⟩;generalize q2:put t1 d0 (.lst ((l.map V.int).take (60:Int).toNat))=t2;have p2:t2 d0=some (.lst ((l.take 60).map V.int)):=by rw[List.map_take,<-q2];show ah
 have h2:t2 884=some (.tup [.str 16]):=q2 ▸ (Fr.new gW).k h1;intro dk CM;have uB:d0≠dk:=λe=>by rw[<-e,p2] at CM;cases CM
 generalize q3:put t2 dk (.lst [.ref d0,.int 0])=s1;have deck:Dk s1 dk d0 0:=⟨⟨l.take 60,q3 ▸ ah,by rw[<-q3,ae uB];show p2,by simp;show⟨"A.60,A.60",Nat.min_le_left _ _⟩,uB⟩,⟨"0:0"⟩,⟨"0:1000"⟩⟩;have Aq:s1 884=some (.tup [.str 16]):=q3 ▸ (Fr.new CM).k h2;clear BH Ap eo q1 p1 h1 gW q2 p2 h2 CM q3 uB;exact draw deck ⟨"0<1000"⟩ (by decide) λN s2 n0 n1 rk o2=>?_;have Im:s2 884=some (.tup [.str 16]):=by
  rw[o2 884 λe=>by
   obtain⟨_,q,_⟩:=deck.d
   nomatch e,q,Aq]
  show Aq
 exact ah4 n0 ⟨"a:8,a<9",n1⟩ Im λs3 c ra tk eN iS f3 nw=>?_;have rn:=rk.new f3;obtain⟨dl,dq1,dq2,_⟩:=rk.d;have As:c.ce≠dk:=aaa (nw _ _ dq1).1;have Io:d0≠ra:=(nw _ _ dq2).2;subst eN;exact⟨⟨by decide,by decide,dX (by decide) n0,by unfold big;show⟨"a<'100000,a<9",n1⟩⟩,?_⟩;exact HK (λi acc s=>∃as:List Nat,acc=as.map V.ref/\(as.length:Int)=i/\(∀(k:Nat) b,as[k]?=some b->∃es ep,s b=some (.aP es ep)/\Dc es (M0 k))/\Fr [] s3 s) 0 c.N n0 ?_ ?_ _ _ ⟨[],rfl,rfl,by simp,.refl⟩
 ·rintro i acc s i0 i1 ⟨as,ea,el,hd,fs⟩ K hK;intro ep b hb;exact hK _ _ ⟨as++[b],by rw[ea];simp,by simp;show⟨"'A=a,'A=a;1,1;1,-1",el⟩,λk b' aK=>?_,fs.trans (.new hb)⟩;rcases iX k as.length with q | q
  ·rw[mV q] at aK;obtain⟨es,dq,h1,h2⟩:=hd k b' aK;show⟨es,dq,by rw[ae λe=>by nomatch e,hb,h1];show h1,h2⟩
  ·rw[oj q] at aK;have:b'=b:=by
    rcases Nat.eq_zero_or_pos (k-as.length) with e | e
    ·rw[e] at aK;simpa using aK.symm
    ·nomatch iV (by simp;show⟨"1.A,0>A",e⟩),aK
   rw[this];show⟨[],ep,ah,Dc.nil⟩
 ·rintro acc s4 ⟨as,ea,el,hd,fs⟩;subst ea;exact⟨by simp;unfold big;show⟨"A>100000,a<9,'A=a",n1,el⟩,λx hx=>?_⟩;generalize q5:put s4 x (.lst (as.map V.ref))=s5;have f5:Fr [] s4 s5:=q5 ▸ .new hx;have QG:DL s5 x M0 c.N:=⟨as,q5 ▸ ah,⟨"A~B,'A=a,'B=a;1,1,-1;1,-1,1",el,bw ⟨"0:a,0:a",n0⟩⟩,λk b hb=>by
   obtain⟨es,ep,h1,h2⟩:=hd k b hb;show⟨es,ep,f5.k h1,h2⟩⟩
  obtain⟨xs3,rg,_⟩:=iS.rows;have xra:x≠ra:=λe=>by nomatch e,fs.k rg,hx
  have Ip:=(iS.aB fs).aB f5;have ro:=(rn.new fs).new f5;clear hd hx fs q5 f5 iS rn rg;intro st oW;generalize q6:put s5 st (.lst [])=s6;have f6:Fr [] s5 s6:=q6 ▸ .new oW;have Iq:st≠ra:=λe=>by
   obtain⟨ys,hy,_⟩:=Ip.rows
   nomatch e,hy,oW
  have Au:s6 st=some (.lst (([]:List Nat).map V.ref)):=q6 ▸ ah;have jM:=Ip.aB f6;have rq:=ro.new f6;have CK:=QG.aB f6;clear q6 oW Ip ro QG f6;intro w hw;generalize q7:put s6 w (.tup [.ref c.bf,.ref x,.ref st])=s7;have f7:Fr [] s6 s7:=q7 ▸ .new hw;have p7:s7 w=some (.tup [.ref c.bf,.ref x,.ref st]):=q7 ▸ ah;have v5:=jM.aB f7;have jN:=rq.new f7;have H9:=CK.aB f7;have Av:=f7.k Au;clear q7 hw Au jM rq CK f7
  exists p7
  exact⟨rfl,?_⟩;exact draw jN ⟨"0+1<1000"⟩ (by decide) λr s8 r0 r1 Aw o8=>?_;have fD:=pL o8;have iv:Iv c tk s8 dk d0 ra x st 0 false tk none [] [] M0 [] [] (0+1+1):=⟨v5.jm fD jN As,.nil,.inl rfl,⟨λ_=>⟨rfl,rfl⟩,λe=>absurd rfl e⟩,Aw,⟨"0+1+1:2+10*0"⟩,Io,As,⟨xra,H9.jm fD jN⟩,⟨fD _ _ Av (vX jN Av),Iq,rfl,by simp⟩,by simp⟩;show((-big:Int)<=0/\(0:Int)<(big:Int)/\(-big:Int)<=2+r/\2+r<(big:Int))/\loop _ (λ_=>True) _ (kM 0 (2+r)) (q8 a dk c.N c.bf x st) s8;exact⟨⟨by decide,by decide,dX (b:=0) (by decide) ⟨"0:2+a,0:a",r0⟩,by unfold big;show⟨"2+a<'100000,a<7",r1⟩⟩,?_⟩;exact Gq (LI a dk c tk d0 ra) 0 (2+r) ⟨"0:2+a,0:a",r0⟩ ?_ ?_ _ _ (.mk iv (.inl ⟨rfl,rfl⟩))
  ·rintro i env s i0 i1 ⟨Ir,ao⟩ K hK;show turn Ir i0 ⟨"a<9,b<7,a<2+b",r1,i1⟩ n0 ⟨"a:8,a<9",n1⟩ (ao.imp (λe=>e.2) id) λY' x' ft rd' kz nt' L' C' M' cM fQ j' Iw u7 u8 u9 ew ey iT dR=>hK _ _ (.mk Iw (.inr ⟨_,_,_,_,_,_,_,rfl⟩))
  ·rintro env s ⟨Ir,ao⟩;rcases ao with⟨e,_⟩ | ⟨u7,u8,u9,ew,ey,iT,dR,rfl⟩
   ·show False.elim ⟨"_,2+a=0,0:a",e,r0⟩
   ·show amX Ir ⟨"2+a:9,a<7",r1⟩ n0 ⟨"a:8,a<9",n1⟩ λs=>rfl
end Tactic
theorem PySem.Challenge.cw_on0074_01_holds : PySem.Challenge.rw_on0074_01.Holds :=
  Lh.Tactic.head (Tactic.join (K := 14) (by decide) fun a l h1 h2 => Tactic.plain_law 0 a l h1 h2)
