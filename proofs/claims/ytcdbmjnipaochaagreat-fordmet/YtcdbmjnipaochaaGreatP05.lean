import Derived.Test.YtcdbmjnipaochaaGreatP04
import Derived.RangeFuncCalls
import Derived.TacticsInMore
import Derived.OrdersIn
import Derived.RangeFuncWrites
import Derived.RangeFuncBound
import Derived.LoopNIn
import Derived.RangeFuncLeaves
import Derived.RangeFuncNested
set_option linter.unusedVariables false
set_option linter.unusedSimpArgs false
set_option maxHeartbeats 8000000
set_option maxRecDepth 100000
namespace Go.Proofs.YtcdbmjnipaochaaGreat.Eng
open Go.RowKit Rgn
abbrev kb:SV:=.s (.o (.k 0))
abbrev cb(b:Bool):SV:=.s (.o (.c (.bool b)))
def ks:Nat→Nat→List At
 | _,0=>[]
 | a,n+1=>.k a::ks (a+1) n
def vs:Nat→Nat→List At
 | _,0=>[]
 | a,n+1=>.v a::vs (a+1) n
theorem headT_ks(a n:Nat):headT (ks a n)=false:=by cases n<;>rfl
theorem headT_vs(a n:Nat):headT (vs a n)=false:=by cases n<;>rfl
def AllF(S:Nat→Prop)(w:World):List Value→List VP→Prop
 | x::xs,φ::φs=>(x.oneCell'=true∧φ.p S x w)∧AllF S w xs φs
 | [],[]=>True
 | _,_=>False
theorem AllF.one{S:Nat→Prop}{w:World}:∀ {xs:List Value} {φs:List VP},AllF S w xs φs→∀ n,(kat xs n).oneCell'=true
 | [],[],_,n=>rfl
 | x::xs,φ::φs,h,0=>h.1.1
 | x::xs,φ::φs,h,n+1=>AllF.one h.2 n
theorem AllF.fac{S:Nat→Prop}{w:World}:∀ {xs:List Value} {φs:List VP},AllF S w xs φs→∀ n ψ,nth φs n=some ψ→ψ.p S (kat xs n) w
 | [],[],_,n,ψ,hn=>by cases n<;>cases hn
 | x::xs,φ::φs,h,0,ψ,hn=>by cases hn;exact h.1.2
 | x::xs,φ::φs,h,n+1,ψ,hn=>AllF.fac h.2 n ψ hn
theorem AllF.len{S:Nat→Prop}{w:World}:∀ {xs:List Value} {φs:List VP},AllF S w xs φs→xs.length=φs.length
 | [],[],_=>rfl
 | x::xs,φ::φs,h=>by rw [List.length_cons,List.length_cons,AllF.len h.2]
theorem Split.of{φ:VP}{sh:SV}{κs:List Value}{φs:List VP}(h:∀ {S:Nat→Prop} {v:Value} {w:World},φ.p S v w→∃ xs,AllF S w xs φs∧∀ β,v=sh.d ⟨β,κs,kat xs⟩):Split φ sh κs φs:=⟨fun h0=>by
 obtain⟨xs,h1,h2⟩:=h h0
 exact⟨xs,h1.len,h1.one,h2,h1.fac⟩⟩
theorem spNum{z:Cx}:Split (NumP z) (.s (.agg (vs 0 2))) [] [RatN z.re,RatN z.im]:=Split.of fun⟨a,b,e,h1,h2⟩=>⟨[a,b],⟨⟨VP1.ratn h1,h1⟩,⟨VP1.ratn h2,h2⟩,trivial⟩,fun _=>e⟩
theorem spRat{q:Rat}:Split (RatP q) (.s (.o (.v 0))) [] [RatP q]:=Split.of fun {S v w} h=>⟨[v],⟨⟨VP1.rat h,h⟩,trivial⟩,fun _=>rfl⟩
theorem spRing{c:Ci}:Split (RingP c) (.s (.agg (vs 0 4))) [] [RatP c.a,RatN c.b.re,RatN c.b.im,RatP c.c]:=Split.of fun⟨x1,x2,x3,x4,e,h1,h2,h3,h4⟩ =>
 ⟨[x1,x2,x3,x4],⟨⟨VP1.rat h1,h1⟩,⟨VP1.ratn h2,h2⟩,⟨VP1.ratn h3,h3⟩,⟨VP1.rat h4,h4⟩,trivial⟩,fun _=>e⟩
theorem sp2Rat{p q:Rat}:Split (VP.tup (RatP p) (RatP q)) (.tup [.o (.v 0),.o (.v 1)]) [] [RatP p,RatP q]:=Split.of fun⟨x,y,e,h1,h2⟩=>⟨[x,y],⟨⟨VP1.rat h1,h1⟩,⟨VP1.rat h2,h2⟩,trivial⟩,fun _=>e⟩
structure Pack (S:Nat→Prop) (W:World) (vs:List Value) (svs:List SV) (bl:List Blk) (κ:List Value) (Φ:List VP):Prop where
 ex:∃ (xs:List Value) (β:Nat→Nat),xs.length=Φ.length∧(∀ n,(kat xs n).oneCell'=true)∧vs=svs.map (SV.d ⟨β,κ,kat xs⟩)∧(∀ n ψ,nth Φ n=some ψ→ψ.p (Amb S W) (kat xs n) W) ∧
  ∀ b k,nth bl b=some k→(k.own=false∧k.fact=none∧k.soft=false)∧HC ⟨β,κ,kat xs⟩ k.cells k.ty W.heap[β b]?
section
variable {P:Program} {S:Nat→Prop} {W:World} {vs:List Value} {svs:List SV} {bl:List Blk} {κ κs:List Value} {Φ φs:List VP} {Q:Exit→Act→World→Prop}
theorem Pack.nil:Pack S W [] [] [] [] []:=⟨[],fun _=>0,rfl,fun _=>rfl,rfl,fun n ψ h=>(by cases n<;>cases h),fun b k h=>(by cases b<;>cases h)⟩
def packB(svs:List SV)(bl:List Blk)(nk nv:Nat):Bool:=svs.all (SV.okB bl.length nk nv)&&bl.all fun k=>k.cells.all (At.okB bl.length nk nv)
theorem more_eq{β:Nat→Nat}{xs ys:List Value}(h0:xs.length=Φ.length):(⟨β,κ++κs,kat (xs++ys)⟩:Env)=(⟨β,κ,kat xs⟩:Env).more κs Φ.length ys:=by
 unfold Env.more
 congr 1
 funext n
 split
 ·rename_i hn;exact kat_left _ _ _ (by omega)
 ·rename_i hn
  rw [← kat_app xs ys (n-Φ.length)]
  congr 1
  omega
theorem Pack.s{φ:VP}{sh:SV}{v:Value}(pk:Pack S W vs svs bl κ Φ)(sp:Split φ sh κs φs)(t:φ.p S v W)(h:packB svs bl κ.length Φ.length=true:=by kernel_rfl):Pack S W (vs++[v]) (svs++[sh.up κ.length Φ.length]) bl (κ++κs) (Φ++φs):=by
 obtain⟨xs,β,h0,h1,h2,h3,h4⟩:=pk.ex
 obtain⟨ys,g0,g1,g2,g3⟩:=sp.at_ (φ.amb t:φ.p (Amb S W) v W)
 simp only [packB,Bool.and_eq_true] at h
 have s:Same bl.length κ.length Φ.length ⟨β,κ,kat xs⟩ ⟨β,κ++κs,kat (xs++ys)⟩:=⟨fun _ _=>rfl,fun n hn=>kat_left _ _ _ hn,fun n hn=>kat_left _ _ _ (by omega)⟩
 refine⟨xs++ys,β,by simp [h0,g0],fun n=>?_,?_,fun n ψ hn=>?_,fun b k hk=>?_⟩
 ·rcases kat_or xs ys n with e|⟨j,e⟩
  ·rw [e];exact h1 n
  ·rw [e];exact g1 j
 ·rw [List.map_append,SV.sameL s h.1,← h2]
  congr 1
  show [v]=[(sh.up κ.length Φ.length).d _]
  congr 1
  rw [g2 β,more_eq h0]
  exact (SV.up_d (E:=⟨β,κ,kat xs⟩)).symm
 ·rcases Nat.lt_or_ge n Φ.length with hn'|hn'
  ·rw [nth_eq,List.getElem?_append_left hn'] at hn
   rw [kat_left _ _ _ (by omega)]
   exact h3 n ψ (by rw [nth_eq];exact hn)
  ·rw [nth_eq,List.getElem?_append_right hn'] at hn
   have e:kat (xs++ys) n=kat ys (n-Φ.length):=by
    rw [← kat_app xs ys (n-Φ.length)]
    congr 1
    omega
   rw [e]
   exact g3 _ ψ (by rw [nth_eq];exact hn)
 ·obtain⟨g,g'⟩:=h4 b k hk
  exact⟨g,g'.env (At.sameL s (List.all_eq_true.1 h.2 k (nth_mem hk)))⟩
theorem spV{V:Value}(κs:List Value)(sh:SV)(h:∀ β ℓ,V=sh.d ⟨β,κs,ℓ⟩:=by intro β ℓ;kernel_rfl):Split (VP.is V) sh κs []:=Split.of fun {S v w} e=>⟨[],trivial,fun β=>by have e:v=V:=e;rw [e];exact h β _⟩
theorem Pack.k(pk:Pack S W vs svs bl κ Φ)(V:Value)(κs:List Value)(sh:SV)(hV:∀ β ℓ,V=sh.d ⟨β,κs,ℓ⟩:=by intro β ℓ;kernel_rfl)(h:packB svs bl κ.length Φ.length=true:=by kernel_rfl):Pack S W (vs++[V]) (svs++[sh.up κ.length Φ.length]) bl (κ++κs) (Φ++[]):=pk.s (spV κs sh hV) rfl h
theorem Pack.b(pk:Pack S W vs svs bl κ Φ){b:Nat}{cs:Array Value}{T:TypeId}(B:W.heap[b]? = some (.cells cs T (0,0)))(row:Option Nat)(n:Nat)(hn:cs.toList.length=n:=by rfl)(h:packB svs bl κ.length Φ.length=true:=by kernel_rfl):Pack S W (vs++[rowV b row]) (svs++[rowS bl.length row]) (bl++[⟨T,ks κ.length n,false,none,false⟩]) (κ++cs.toList) Φ:=by
 obtain⟨xs,β,h0,h1,h2,h3,h4⟩:=pk.ex
 simp only [packB,Bool.and_eq_true] at h
 let β' : Nat→Nat:=fun i=>if i=bl.length then b else β i
 have s:Same bl.length κ.length Φ.length ⟨β,κ,kat xs⟩ ⟨β', κ++cs.toList,kat xs⟩:=⟨fun i hi=>if_neg (Nat.ne_of_lt hi),fun n hn=>kat_left _ _ _ hn,fun _ _=>rfl⟩
 have hb:β' bl.length=b:=if_pos rfl
 refine⟨xs,β', h0,h1,?_,h3,fun i k hk=>?_⟩
 ·rw [List.map_append,SV.sameL s h.1,← h2]
  congr 1
  show [rowV b row]=[(rowS bl.length row).d ⟨β', κ++cs.toList,kat xs⟩]
  cases row<;>simp [rowV,rowS,SV.d,S1.d,At.d,hb]
 ·rcases nth_snoc hk with hk|⟨rfl,rfl⟩
  ·obtain⟨g,g'⟩:=h4 i k hk
   exact⟨g,by rw [show β' i=β i from if_neg (Nat.ne_of_lt (nth_lt hk))];exact g'.env (At.sameL s (List.all_eq_true.1 h.2 k (nth_mem hk)))⟩
  ·refine⟨⟨rfl,rfl,rfl⟩,HC.mk ?_ (headT_ks _ _)⟩
   rw [hb,B]
   have key:∀ (l:List Value) (κ0:List Value),(ks κ0.length l.length).map (At.d ⟨β', κ0++l,kat xs⟩)=l:=by
    intro l
    induction l with
    | nil=>intro κ0;rfl
    | cons x l ih =>
     intro κ0
     have h5:=ih (κ0++[x])
     rw [List.length_append,List.append_assoc] at h5
     simp only [List.length_cons,List.length_nil,Nat.zero_add,List.singleton_append] at h5
     show kat (κ0++x::l) κ0.length::(ks (κ0.length+1) l.length).map _=x::l
     rw [h5]
     congr 1
     exact kat_app κ0 (x::l) 0
   rw [← hn,key cs.toList κ]
theorem Run.goP{f:FuncId}{fn:Func}{c:Code}{R:Ending→World→Prop}{args:Array Value}(pk:Pack S W vs svs bl κ Φ)(hf:P.funcs[f]? = some fn)(hb:fn.body=some c)(h:Run P S W κ Φ (bodyPost P fn R) ⟨.code c,[],svs.map some++List.replicate (fn.ntmps-svs.length) (some cU),bl,κ.length,Φ.length,[],[]⟩)(ha:vs=args.toList:=by kernel_rfl)(h1:κ.all (·.oneCell')=true:=by kernel_rfl):Calls P f args W R:=by
 obtain⟨xs,β,_,h2,h3,h4,h5⟩:=pk.ex
 exact Run.go0 κ Φ xs β bl svs hf hb h h4 h5 (h3.symm.trans ha) h1 h2
end
theorem Inv.oz{A S:Nat→Prop}{sf:List Nat}{W w:World}{κ κ': List Value}{Φ:List VP}{β:Nat→Nat}{ℓ:Nat→Value}{bl:List Blk}(I:Inv A S W κ Φ ⟨β,κ', ℓ⟩ bl sf w)(n:Nat)(h:(whole (nthB bl n)).map (fun k=>(k.ty,k.cells.map (At.d ⟨β,κ', ℓ⟩)))=some (212,zQ.toList):=by kernel_rfl):(RatP 0).p (·=β n) (pt (β n)) w:=RatP.fresh (I.b n h)
theorem Inv.rz{A S:Nat→Prop}{sf:List Nat}{W w:World}{κ κ': List Value}{Φ:List VP}{β:Nat→Nat}{ℓ:Nat→Value}{bl:List Blk}(I:Inv A S W κ Φ ⟨β,κ', ℓ⟩ bl sf w)(n:Nat)(h:(whole (nthB bl n)).map (fun k=>(k.ty,k.cells.map (At.d ⟨β,κ', ℓ⟩)))=some (212,zQ.toList):=by kernel_rfl)(hs:(nth bl n).map (fun k=>k.own && !k.soft)=some true:=by kernel_rfl):(RatP 0).p A (pt (β n)) w :=
 (RatP 0).mono (fun k _ e=>by
  subst e
  cases hk:nth bl n with
  | none=>rw [hk] at hs;cases hs
  | some x =>
   rw [hk,Option.map_some,Option.some.injEq,Bool.and_eq_true,Bool.not_eq_true'] at hs
   exact I.se n x hk hs.1 hs.2) (I.oz n h)
theorem InvE.rz{S:Nat→Prop}{sf:List Nat}{W w:World}{κ κ': List Value}{Φ:List VP}{β:Nat→Nat}{ℓ:Nat→Value}{bl:List Blk}(I:InvE S W κ Φ ⟨β,κ', ℓ⟩ bl sf w)(n:Nat)(h:(whole (nthB bl n)).map (fun k=>(k.ty,k.cells.map (At.d ⟨β,κ', ℓ⟩)))=some (212,zQ.toList):=by kernel_rfl)(hs:(nth bl n).map (·.own)=some true:=by kernel_rfl):(RatP 0).p (Amb S W) (pt (β n)) w :=
 (RatP 0).mono (fun k _ e=>by
  subst e
  cases hk:nth bl n with
  | none=>rw [hk] at hs;cases hs
  | some x =>
   rw [hk,Option.map_some,Option.some.injEq] at hs
   exact .inr (I.own n x hk hs)) (RatP.fresh (I.b n h))
theorem anyV{φ:VP}{T:Nat→Prop}{v:Value}{w:World}(h:φ.p T v w):φ.p (fun _=>True) v w:=φ.mono (fun _ _ _=>trivial) h
theorem softRat{q:Rat}:SoftV (RatP q):=fun h=>RatP.soft h
theorem softInt{q:Int}:SoftV (IntO q):=fun h=>IntO.soft h
inductive PE where
 | ev (r:SV) (e:Eff) (rd:Option Nat)
 | no
 | ca (r:SV) (nk nv:Nat) (fl:Option Nat) (st rs:List Nat)
def PE.val:PE→SV
 | .ev r .non _=>r
 | .ev r (.al _ _ _) _=>r
 | .ev _ (.st _ _) _=>cU
 | .no=>cU
 | .ca r _ _ _ _ _=>r
def PE.nk:PE→Nat
 | .ca _ nk _ _ _ _=>nk
 | _=>0
def PE.nv:PE→Nat
 | .ca _ _ nv _ _ _=>nv
 | _=>0
def updB(b n:Nat)(k:Blk):PE→Option Blk
 | .ev _ (.st b' cells) _=>if Nat.beq b' b then some ⟨k.ty,cells,true,none,k.soft⟩ else none
 | .ca _ _ _ (some b') _ _=>if Nat.beq b' b then some ⟨k.ty,[],true,some n,k.soft⟩ else none
 | _=>none
def wrt(b:Nat):PE→Bool
 | .ev _ (.st b' _) _=>Nat.beq b' b
 | .ca _ _ _ (some b') _ _=>Nat.beq b' b
 | _=>false
def sett(b:Nat):PE→Bool
 | .ca _ _ _ _ st _=>hasN st b
 | _=>false
def stepB(b n:Nat)(k:Blk)(e:PE):Blk:=(updB b n k e).getD k
def foldB(b:Nat)(L:Nat→Bool):Nat→Nat→List PE→Blk→Blk
 | _,_,[],k=>k
 | i,n,e::l,k=>foldB b L (i+1) (n+e.nv) l (if L i then stepB b n k e else k)
def settled(b:Nat)(L:Nat→Bool):Nat→List PE→Bool
 | _,[]=>false
 | i,e::l=>(L i&&sett b e)||settled b L (i+1) l
def alAt:Nat→Nat→List PE→Option (Nat×Blk)
 | _,_,[]=>none
 | q,i,.ev _ (.al ty cells row) _::l=>match q with
  | 0=>some (i,⟨ty,cells,true,none,softT ty row⟩)
  | q+1=>alAt q (i+1) l
 | q,i,_::l=>alAt q (i+1) l
def nAl:List PE→Nat
 | []=>0
 | .ev _ (.al _ _ _) _::l=>nAl l+1
 | _::l=>nAl l
def nK:List PE→Nat
 | []=>0
 | e::l=>e.nk+nK l
def nV:List PE→Nat
 | []=>0
 | e::l=>e.nv+nV l
def mkV:Nat→Nat→List PE→Option Nat
 | _,_,[]=>none
 | q,i,.ca _ _ nv fl _ _::l=>if Nat.blt q nv then (if fl.isSome then none else some i) else mkV (q-nv) (i+1) l
 | q,i,_::l=>mkV q (i+1) l
def sfD:Nat→List PE→List Nat
 | _,[]=>[]
 | n,.ca _ _ nv (some _) _ _::l=>n::sfD (n+nv) l
 | n,e::l=>sfD (n+e.nv) l
def At.bs:At→List Nat
 | .p b _=>[b]
 | .sl b _ _ _=>[b]
 | .ls b _ _=>[b]
 | .fn _ bs=>bs
 | _=>[]
def S1.bs(x:S1):List Nat:=x.cl.flatMap At.bs
def SV.bs:SV→List Nat
 | .s x=>x.bs
 | .tup l=>l.flatMap S1.bs
section
variable (P:Program) (ops:Array Oper) (m:MS)
def base(pl:List PE)(L:Nat→Bool)(b:Nat):Option Blk :=
 if Nat.blt b m.bl.length then nth m.bl b else match alAt (b-m.bl.length) 0 pl with|some (j,k)=>if L j then some k else none|none=>none
def blkL(pl:List PE)(L:Nat→Bool)(b:Nat):Option Blk :=
 match base m pl L b with
 | none=>none
 | some k=>match foldB b L 0 m.nv pl k with
  | k' => some ⟨k'.ty,k'.cells,k'.own,k'.fact,k'.soft && !settled b L 0 pl⟩
def visL(pl:List PE)(L:Nat→Bool)(n:Nat):Bool:=(Nat.blt n m.nv && !hasN m.sf n)||(!Nat.blt n m.nv&&match mkV (n-m.nv) 0 pl with|some j=>L j|none=>false)
def At.inL(pl:List PE)(L:Nat→Bool):At→Bool
 | .v n=>Nat.blt n m.nv||match mkV (n-m.nv) 0 pl with|some j=>L j|none=>false
 | .k n=>Nat.blt n (m.nk+nK pl)
 | .c _=>true
 | .p b _=>Nat.blt b m.bl.length||match alAt (b-m.bl.length) 0 pl with|some (j,_)=>L j|none=>false
 | .sl b _ _ _=>Nat.blt b m.bl.length||match alAt (b-m.bl.length) 0 pl with|some (j,_)=>L j|none=>false
 | .ls b _ _=>Nat.blt b m.bl.length||match alAt (b-m.bl.length) 0 pl with|some (j,_)=>L j|none=>false
 | .fn _ bs=>bs.all fun b=>Nat.blt b m.bl.length||match alAt (b-m.bl.length) 0 pl with|some (j,_)=>L j|none=>false
 | .fm _ ns=>ns.all fun n=>Nat.blt n m.nv||match mkV (n-m.nv) 0 pl with|some j=>L j|none=>false
def S1.inL(pl:List PE)(L:Nat→Bool)(x:S1):Bool:=x.cl.all (At.inL m pl L)
def SV.inL(pl:List PE)(L:Nat→Bool):SV→Bool
 | .s x=>x.inL m pl L
 | .tup l=>l.all (S1.inL m pl L)
def eoD(pl:List PE)(i:Nat):Operand→Option SV
 | .tmp t=>match dstIdx ops t with
  | some j=>if pre ops i j then (nth pl j).map PE.val else if pre ops j i then eoF m.fr (.tmp t) else none
  | none=>eoF m.fr (.tmp t)
 | x=>eoF m.fr x
def slotD(pl:List PE)(i q:Nat):Option (Option Bool) :=
 if pre ops i q&&((ops[q]?).bind (·.dst)).isSome then match nth pl q with
  | some e=>match e.val with
   | .s (.o (.c v))=>match v with
    | .bool b=>some (some b)
    | _=>some none
   | _=>none
  | none=>none
 else none
def rdOf(eo:Operand→Option SV):Op→Option Nat
 | .load _ x=>((eo x).bind pOf).map (·.1)
 | .store _ x _=>((eo x).bind pOf).map (·.1)
 | _=>none
def sxD(pl:List PE)(i:Nat)(o:Op):Sx :=
 ⟨eoD ops m pl i,fun b=>match rdOf (eoD ops m pl i) o with|some b' => if Nat.beq b b' then clear (blkL m pl (pre ops i) b) else none|none=>none,m.bl.length+nAl pl⟩
def wantD(pl:List PE)(i:Nat)(o:Oper):Option Bool :=
 match o.guard with
 | none=>some true
 | some (q,w)=>match slotD ops pl i q with
  | some (some b)=>some (b == w)
  | some none=>some false
  | none=>none
def nextD(pl:List PE):Option PE :=
 match ops[pl.length]? with
 | none=>none
 | some o=>match wantD ops pl pl.length o with
  | some true=>match evOp P (sxD ops m pl pl.length o.op) o.op with
   | some (r,e)=>some (.ev r e (rdOf (eoD ops m pl pl.length) o.op))
   | none=>none
  | some false=>some .no
  | none=>none
def runD(n:Nat):List PE→List PE:=Nat.rec (fun pl=>pl) (fun _ ih pl=>match nextD P ops m pl with|some e=>ih (pl++[e])|none=>pl) n
def callD(pl:List PE):Option (FuncId×List SV) :=
 match ops[pl.length]? with
 | none=>none
 | some o=>match wantD ops pl pl.length o with
  | some true=>match o.op with
   | .call c=>match c.callee with
    | .value x=>match calleeOf (eoD ops m pl pl.length x) with
     | some (f,fst,caps)=>match P.funcs[f]? with
      | some fn=>if (fn.name == "runtime.NumGoroutine")||fn.body.isNone then none else (evLx (eoD ops m pl pl.length) c.args.toList).map fun l=>(f,fst++l++caps)
      | none=>none
     | none=>none
    | _=>none
   | _=>none
  | _=>none
where evLx (eo:Operand→Option SV):List Operand→Option (List SV)
 | []=>some []
 | x::l=>match eo x,evLx eo l with
  | some v,some r=>some (v::r)
  | _,_=>none
def argsD(pl:List PE)(E:Env):Option (FuncId×List Value):=(callD P ops m pl).map fun q=>(q.1,q.2.map (SV.d E))
def deep(pl:List PE):Nat→List Nat→List Nat
 | 0,l=>l
 | n+1,l=>l++deep pl n (l.flatMap fun b=>match blkL m pl (pre ops pl.length) b with|some k=>k.cells.flatMap At.bs|none=>[])
def rsD(pl:List PE):List Nat:=match callD P ops m pl with|some q=>deep ops m pl 2 (q.2.flatMap SV.bs)|none=>[]
def seeD(pl:List PE)(st rs:List Nat)(b:Nat):Option Blk :=
 if hasN rs b then (match blkL m pl (pre ops pl.length) b with|some k=>some ⟨k.ty,k.cells,k.own,k.fact,k.soft && !hasN st b⟩|none=>none) else none
def touch:PE→Nat→Bool
 | .ev _ _ (some b') , b=>Nat.beq b' b
 | .ev _ _ none,_=>false
 | .no,_=>false
 | .ca _ _ _ fl _ rs,b=>hasN rs b||(match fl with|some b' => Nat.beq b' b|none=>false)
def alB(pl:List PE)(L:Nat→Bool)(b:Nat):Bool:=Nat.blt b m.bl.length||match alAt (b-m.bl.length) 0 pl with|some (q,_)=>L q|none=>false
def cmpB'(i j:Nat):Bool:=pre ops i j||pre ops j i
def soleB(pl:List PE)(i b:Nat):Bool:=(List.range pl.length).all fun j=>Nat.beq j i||match nth pl j with
 | some e' => !(touch e' b||wrt b e')||cmpB' ops i j
 | none=>true
def sole2B(pl:List PE)(i b:Nat):Bool:=(List.range pl.length).all fun j=>Nat.beq j i||match nth pl j with
 | some e' => !wrt b e'||cmpB' ops i j
 | none=>true
def entryB(pl:List PE)(i:Nat)(e:PE):Bool :=
 let L:=fun q=>pre ops i q||Nat.beq q i
 e.val.inL m pl L&&match e with
 | .ev _ (.al _ cells _) _=>cells.all (At.inL m pl (pre ops i))
 | .ev _ (.st b cells) _=>cells.all (At.inL m pl (pre ops i))&&alB m pl (pre ops i) b&&soleB ops pl i b
 | .ca _ _ nv fl st rs=>(match fl with|some b=>Nat.beq nv 1&&alB m pl (pre ops i) b&&soleB ops pl i b&&(match blkL m (pl.take i) (pre ops i) b with|some k=>k.soft && !hasN st b|none=>false)|none=>true) &&
   st.all fun b=>alB m pl (pre ops i) b&&sole2B ops pl i b&&(match blkL m (pl.take i) (pre ops i) b with|some k=>k.own|none=>false)&&hasN rs b
 | _=>true
def planB(pl:List PE):Bool :=
 Nat.beq pl.length ops.size&&preB ops&&apartB ops&&m.okB&&(List.range ops.size).all (fun i=>match nth pl i with|some e=>entryB ops m pl i e|none=>false) &&
  ((List.range ops.size).all fun i=>match dstOf ops i with|some d=>Nat.blt d m.fr.length|none=>true) &&
  (List.range ops.size).all fun i=>Nat.blt ((Region.before ops).getD i 0) (2^ops.size)
def frD(pl:List PE):Nat→List (Option SV)→List (Option SV)
 | 0,fr=>fr
 | n+1,fr=>putF (frD pl n fr) (dstOf ops n) ((nth pl n).map PE.val)
def blD(pl:List PE):List Blk:=(List.range (m.bl.length+nAl pl)).map fun b=>(blkL m pl (fun _=>true) b).getD ⟨0,[],false,none,false⟩
def aftD(pl:List PE):MS:={ m with cur:=.ex .normal,fr:=frD ops pl ops.size m.fr,bl:=blD m pl,nk:=m.nk+nK pl,nv:=m.nv+nV pl,sf:=m.sf++sfD m.nv pl }
def opsOf:Array Oper:=match m.cur with|.code (.region _ ops true)=>ops|_=>#[]
def isDr:Bool:=match m.cur with|.code (.region _ _ true)=>true|_=>false
end
structure InvD (A S:Nat→Prop) (W:World) (κ:List Value) (Φ:List VP) (E:Env) (bl:Nat→Option Blk) (vis:Nat→Bool) (w:World):Prop where
 ek:E.κ=κ
 bel:Below W.heap.size W w
 lt:∀ b k,bl b=some k→E.β b<w.heap.size
 blk:∀ b k,bl b=some k→k.fact=none→HC E k.cells k.ty w.heap[E.β b]?
 own:∀ b k,bl b=some k→k.own=true→W.heap.size≤E.β b
 old:∀ b k,bl b=some k→k.own=false→E.β b<W.heap.size
 inj:∀ b c k l,bl b=some k→bl c=some l→k.own=true→l.own=true→b≠c→E.β b≠E.β c
 ol:∀ n,(E.ℓ n).oneCell'=true
 ok:∀ n,(kat κ n).oneCell'=true
 fac:∀ n φ,nth Φ n=some φ→vis n=true→φ.p A (E.ℓ n) w
 up:∀ k,A k→Amb S W k
 se:∀ b k,bl b=some k→k.own=true→k.soft=false→A (E.β b)
 so:∀ b k,bl b=some k→k.soft=true→k.own=true∧¬ A (E.β b)∧Soft w (E.β b)
 sof:∀ b k n,bl b=some k→k.fact=some n→k.own=true∧Soft w (E.β b)∧∃ φ,nth Φ n=some φ∧φ.p (·=E.β b) (.pointer (some ⟨E.β b,0,none⟩)) w
structure InvU (A:Nat→Prop) (Φ:List VP) (E:Env) (bl:Nat→Option Blk) (vis:Nat→Bool) (w:World):Prop where
 blk:∀ b k,bl b=some k→k.fact=none→HC E k.cells k.ty w.heap[E.β b]?
 fac:∀ n φ,nth Φ n=some φ→vis n=true→φ.p A (E.ℓ n) w
 se:∀ b k,bl b=some k→k.own=true→k.soft=false→A (E.β b)
 sof:∀ b k n φ,bl b=some k→k.fact=some n→nth Φ n=some φ→φ.p (·=E.β b) (.pointer (some ⟨E.β b,0,none⟩)) w
section
variable {P:Program} {A S:Nat→Prop} {W:World} {κ κs:List Value} {Φ φs:List VP} {w w' : World}
theorem InvU.f{β:Nat→Nat}{κ': List Value}{ℓ:Nat→Value}{bl:Nat→Option Blk}{vis:Nat→Bool}(I:InvU A Φ ⟨β,κ', ℓ⟩ bl vis w)(n:Nat){φ:VP}(h:nth Φ n=some φ:=by kernel_rfl)(hv:vis n=true:=by kernel_rfl):φ.p A (ℓ n) w:=I.fac n φ h hv
theorem InvU.b{β:Nat→Nat}{κ': List Value}{ℓ:Nat→Value}{bl:Nat→Option Blk}{vis:Nat→Bool}(I:InvU A Φ ⟨β,κ', ℓ⟩ bl vis w)(n:Nat){cs:Array Value}{T:TypeId}(h:(whole (clear (bl n))).map (fun k=>(k.ty,k.cells.map (At.d ⟨β,κ', ℓ⟩)))=some (T,cs.toList):=by kernel_rfl):w.heap[β n]? = some (.cells cs T (0,0)):=by
 cases hk:whole (clear (bl n)) with
 | none=>rw [hk] at h;cases h
 | some k =>
  rw [hk] at h
  simp only [Option.map_some,Option.some.injEq,Prod.mk.injEq] at h
  obtain⟨rfl,h2⟩:=h
  obtain⟨hk,hT⟩:=whole_ex hk
  obtain⟨h3,h4⟩:=clear_ex hk
  rw [(I.blk n k h3 h4).ex hT,h2]
theorem InvU.o{β:Nat→Nat}{κ': List Value}{ℓ:Nat→Value}{bl:Nat→Option Blk}{vis:Nat→Bool}(I:InvU A Φ ⟨β,κ', ℓ⟩ bl vis w)(n:Nat){φ:VP}(h:((bl n).bind (·.fact)).bind (nth Φ)=some φ:=by kernel_rfl):φ.p (·=β n) (.pointer (some ⟨β n,0,none⟩)) w:=by
 cases hk:bl n with
 | none=>rw [hk] at h;cases h
 | some k =>
  rw [hk] at h
  cases hf:k.fact with
  | none=>rw [Option.bind_some,hf] at h;cases h
  | some q =>
   rw [Option.bind_some,hf,Option.bind_some] at h
   exact I.sof n k q φ hk hf h
theorem InvU.in{β:Nat→Nat}{κ': List Value}{ℓ:Nat→Value}{bl:Nat→Option Blk}{vis:Nat→Bool}(I:InvU A Φ ⟨β,κ', ℓ⟩ bl vis w)(n:Nat)(hs:(bl n).map (fun k=>k.own && !k.soft)=some true):A (β n):=by
 cases hk:bl n with
 | none=>rw [hk] at hs;cases hs
 | some x =>
  rw [hk,Option.map_some,Option.some.injEq,Bool.and_eq_true,Bool.not_eq_true'] at hs
  exact I.se n x hk hs.1 hs.2
theorem InvU.s{β:Nat→Nat}{κ': List Value}{ℓ:Nat→Value}{bl:Nat→Option Blk}{vis:Nat→Bool}(I:InvU A Φ ⟨β,κ', ℓ⟩ bl vis w)(n:Nat){φ:VP}(h:((bl n).bind (·.fact)).bind (nth Φ)=some φ:=by kernel_rfl)(hs:(bl n).map (fun k=>k.own && !k.soft)=some true:=by kernel_rfl):φ.p A (.pointer (some ⟨β n,0,none⟩)) w:=φ.mono (fun k _ e=>by subst e;exact I.in n hs) (I.o n h)
theorem InvU.oz{β:Nat→Nat}{κ': List Value}{ℓ:Nat→Value}{bl:Nat→Option Blk}{vis:Nat→Bool}(I:InvU A Φ ⟨β,κ', ℓ⟩ bl vis w)(n:Nat)(h:(whole (clear (bl n))).map (fun k=>(k.ty,k.cells.map (At.d ⟨β,κ', ℓ⟩)))=some (212,zQ.toList):=by kernel_rfl):(RatP 0).p (·=β n) (pt (β n)) w:=RatP.fresh (I.b n h)
theorem InvU.rz{β:Nat→Nat}{κ': List Value}{ℓ:Nat→Value}{bl:Nat→Option Blk}{vis:Nat→Bool}(I:InvU A Φ ⟨β,κ', ℓ⟩ bl vis w)(n:Nat)(h:(whole (clear (bl n))).map (fun k=>(k.ty,k.cells.map (At.d ⟨β,κ', ℓ⟩)))=some (212,zQ.toList):=by kernel_rfl)(hs:(bl n).map (fun k=>k.own && !k.soft)=some true:=by kernel_rfl):(RatP 0).p A (pt (β n)) w:=(RatP 0).mono (fun k _ e=>by subst e;exact I.in n hs) (I.oz n h)
end
def Owes(P:Program)(S:Nat→Prop)(W:World)(ops:Array Oper)(m:MS)(κ:List Value)(Φ:List VP)(pl:List PE)(r:SV)(κs:List Value)(φs:List VP)(st rs:List Nat):Prop :=
 ∀ {A:Nat→Prop} {more:List Value} (β:Nat→Nat) (ℓ:Nat→Value) (w:World),InvU A Φ ⟨β,κ++more,ℓ⟩ (seeD ops m pl st rs) (visL m pl (pre ops pl.length)) w →
  ∃ f args R,argsD P ops m pl ⟨β,κ++more,ℓ⟩=some (f,args)∧Calls P f ⟨args⟩ w R ∧
   ∀ e w', R e w'→∃ v xs,e=.returned v∧(∀ n,(kat xs n).oneCell'=true) ∧
    (∀ E:Env,(∀ n,kat E.κ (m.nk+nK pl+n)=kat κs n∨κs.length≤n)→(∀ n,n<φs.length→E.ℓ (m.nv+nV pl+n)=kat xs n)→v=r.d E) ∧
    (∀ n ψ,nth φs n=some ψ→ψ.p (andNew A w) (kat xs n) w')∧Below w.heap.size w w'
def OwesO(P:Program)(S:Nat→Prop)(W:World)(ops:Array Oper)(m:MS)(κ:List Value)(Φ:List VP)(pl:List PE)(b:Nat)(φ:VP)(st rs:List Nat):Prop :=
 SoftV φ∧∀ {A:Nat→Prop} {more:List Value} (β:Nat→Nat) (ℓ:Nat→Value) (w:World),InvU A Φ ⟨β,κ++more,ℓ⟩ (seeD ops m pl st rs) (visL m pl (pre ops pl.length)) w →
  ∃ f args,argsD P ops m pl ⟨β,κ++more,ℓ⟩=some (f,args)∧Calls P f ⟨args⟩ w (RetOwn (β b) φ w)
def OwesV(P:Program)(S:Nat→Prop)(W:World)(ops:Array Oper)(m:MS)(κ:List Value)(Φ:List VP)(pl:List PE)(r:SV)(κs:List Value):Prop :=
 ∀ {A:Nat→Prop} {more:List Value} (β:Nat→Nat) (ℓ:Nat→Value) (w:World),InvU A Φ ⟨β,κ++more,ℓ⟩ (seeD ops m pl [] []) (visL m pl (pre ops pl.length)) w →
  ∀ ρ:Operand→Value,(∀ x v,eoD ops m pl pl.length x=some v→ρ x=v.d ⟨β,κ++more,ℓ⟩)→∃ o V,ops[pl.length]? = some o∧wantD ops pl pl.length o=some true∧(execOp ρ o).run P w=.ok (.value V) w ∧
   ∀ E:Env,(∀ n,kat E.κ (m.nk+nK pl+n)=kat κs n∨κs.length≤n)→V=r.d E
inductive Good (P:Program) (S:Nat→Prop) (W:World) (ops:Array Oper) (m:MS) (κ0:List Value) (Φ0:List VP):List PE→List Value→List VP→Prop
 | nil:Good P S W ops m κ0 Φ0 [] κ0 Φ0
 | ev {pl κ Φ e}:Good P S W ops m κ0 Φ0 pl κ Φ→nextD P ops m pl=some e→Good P S W ops m κ0 Φ0 (pl++[e]) κ Φ
 | ca {pl κ Φ r κs φs st rs}:Good P S W ops m κ0 Φ0 pl κ Φ→Owes P S W ops m κ Φ pl r κs φs st rs→(∀ n,(kat κs n).oneCell'=true)→Good P S W ops m κ0 Φ0 (pl++[.ca r κs.length φs.length none st rs]) (κ++κs) (Φ++φs)
 | co {pl κ Φ b φ st rs}:Good P S W ops m κ0 Φ0 pl κ Φ→OwesO P S W ops m κ Φ pl b φ st rs→Good P S W ops m κ0 Φ0 (pl++[.ca (.s (.o (.p b 0))) 0 1 (some b) st rs]) κ (Φ++[φ])
 | va {pl κ Φ r κs}:Good P S W ops m κ0 Φ0 pl κ Φ→OwesV P S W ops m κ Φ pl r κs→(∀ n,(kat κs n).oneCell'=true)→Good P S W ops m κ0 Φ0 (pl++[.ca r κs.length 0 none [] []]) (κ++κs) Φ
theorem nth_app_l{α:Type}{l r:List α}{i:Nat}{x:α}(h:nth l i=some x):nth (l++r) i=some x:=by
 rw [nth_eq,List.getElem?_append_left (nth_lt h),← nth_eq];exact h
theorem nth_take{α:Type}{l:List α}{n i:Nat}{x:α}(h:nth (l.take n) i=some x):nth l i=some x:=by
 rw [nth_eq] at h ⊢
 rw [List.getElem?_take] at h
 split at h
 ·exact h
 ·cases h
theorem updB_none{b n:Nat}{k:Blk}{e:PE}(h:wrt b e=false):updB b n k e=none:=by
 cases e with
 | ev r ef rd =>
  cases ef with
  | st b' c=>have h:Nat.beq b' b=false:=h;simp only [updB,h];rfl
  | non=>rfl
  | al t c r=>rfl
 | no=>rfl
 | ca r nk nv fl st rs =>
  cases fl with
  | none=>rfl
  | some b' => have h:Nat.beq b' b=false:=h;simp only [updB,h];rfl
theorem updB_some{b n:Nat}{k:Blk}{e:PE}(h:wrt b e=true):∃ cells fact,(∀ k' : Blk,updB b n k' e=some ⟨k'.ty,cells,true,fact,k'.soft⟩)∧((∃ v rd,e=.ev v (.st b cells) rd∧fact=none)∨∃ r nk nv st rs,e=.ca r nk nv (some b) st rs∧cells=[]∧fact=some n):=by
 cases e with
 | ev r ef rd =>
  cases ef with
  | st b' c =>
   have h:Nat.beq b' b=true:=h
   have hb:=Nat.eq_of_beq_eq_true h
   subst hb
   exact⟨c,none,fun k' => by (first|(simp only [updB,h];done)|(simp only [updB,h];rfl)),.inl ⟨r,rd,rfl,rfl⟩⟩
  | non=>cases h
  | al t c r=>cases h
 | no=>cases h
 | ca r nk nv fl st rs =>
  cases fl with
  | none=>cases h
  | some b' =>
   have h:Nat.beq b' b=true:=h
   have hb:=Nat.eq_of_beq_eq_true h
   subst hb
   exact⟨[],some n,fun k' => by (first|(simp only [updB,h];done)|(simp only [updB,h];rfl)),.inr ⟨r,nk,nv,st,rs,rfl,rfl,rfl⟩⟩
theorem foldB_congr{b:Nat}{L L': Nat→Bool}:∀ (l:List PE) (i n:Nat) (k:Blk),(∀ j e,nth l j=some e→wrt b e=true→L (i+j)=L' (i+j))→foldB b L i n l k=foldB b L' i n l k
 | [],i,n,k,h=>rfl
 | e::l,i,n,k,h=>by
  have ih:=fun k=>foldB_congr l (i+1) (n+e.nv) k (fun j e' he hw=>(show i+(j+1)=i+1+j by omega) ▸ h (j+1) e' he hw)
  show foldB b L (i+1) (n+e.nv) l _=foldB b L' (i+1) (n+e.nv) l _
  cases hw:wrt b e with
  | true =>
   have:=h 0 e rfl hw
   rw [Nat.add_zero] at this
   rw [this];exact ih _
  | false =>
   have hs:stepB b n k e=k:=by unfold stepB;rw [updB_none hw];rfl
   rw [hs];simp only [ite_self];exact ih _
theorem foldB_app{b:Nat}{L:Nat→Bool}:∀ (l r:List PE) (i n:Nat) (k:Blk),foldB b L i n (l++r) k=foldB b L (i+l.length) (n+nV l) r (foldB b L i n l k)
 | [],r,i,n,k=>rfl
 | e::l,r,i,n,k=>by
  show foldB b L (i+1) (n+e.nv) (l++r) _=_
  rw [foldB_app l r]
  show foldB b L (i+1+l.length) (n+e.nv+nV l) r _=foldB b L (i+(l.length+1)) (n+(e.nv+nV l)) r _
  rw [show i+1+l.length=i+(l.length+1) by omega,show n+e.nv+nV l=n+(e.nv+nV l) by omega]
  rfl
theorem foldB_id{b:Nat}{L:Nat→Bool}:∀ (l:List PE) (i n:Nat) (k:Blk),(∀ j e,nth l j=some e→wrt b e=true→L (i+j)=false)→foldB b L i n l k=k
 | [],i,n,k,h=>rfl
 | e::l,i,n,k,h=>by
  show foldB b L (i+1) (n+e.nv) l _=k
  have e1:(if L i then stepB b n k e else k)=k:=by
   cases hw:wrt b e with
   | true=>have:=h 0 e rfl hw;rw [Nat.add_zero] at this;rw [this];rfl
   | false=>rw [show stepB b n k e=k by unfold stepB;rw [updB_none hw];rfl];simp only [ite_self]
  rw [e1]
  exact foldB_id l (i+1) _ k (fun j e' he hw=>by have:=h (j+1) e' he hw;rwa [show i+(j+1)=i+1+j by omega] at this)
theorem foldB_last{b:Nat}{L:Nat→Bool}:∀ (l:List PE) (i n:Nat) (k:Blk),foldB b L i n l k=k∨∃ j e,nth l j=some e∧L (i+j)=true∧wrt b e=true∧updB b (n+nV (l.take j)) k e=some (foldB b L i n l k)
 | [],i,n,k=>.inl rfl
 | e::l,i,n,k=>by
  have hstep:foldB b L i n (e::l) k=foldB b L (i+1) (n+e.nv) l (if L i then stepB b n k e else k):=rfl
  rw [hstep]
  by_cases hL:L i=true∧wrt b e=true
  ·obtain⟨cells,fact,hu,_⟩:=updB_some (n:=n) (k:=k) hL.2
   have e1:(if L i then stepB b n k e else k)=⟨k.ty,cells,true,fact,k.soft⟩:=by rw [if_pos hL.1];unfold stepB;rw [hu];rfl
   rw [e1]
   rcases foldB_last l (i+1) (n+e.nv) ⟨k.ty,cells,true,fact,k.soft⟩ with h|⟨j,e', h1,h2,h3,h4⟩
   ·exact .inr ⟨0,e,rfl,hL.1,hL.2,by rw [h];exact hu k⟩
   ·refine .inr ⟨j+1,e', h1,by rw [show i+(j+1)=i+1+j by omega];exact h2,h3,?_⟩
    obtain⟨c2,f2,hu2,_⟩:=updB_some (n:=n+e.nv+nV (l.take j)) (k:=k) h3
    rw [hu2] at h4
    rw [← h4,show n+nV ((e::l).take (j+1))=n+e.nv+nV (l.take j) by show n+(e.nv+nV (l.take j))=_;omega]
    exact hu2 k
  ·have e1:(if L i then stepB b n k e else k)=k:=by
    cases hw:wrt b e with
    | true=>rw [if_neg (fun h=>hL ⟨h,hw⟩)]
    | false=>rw [show stepB b n k e=k by unfold stepB;rw [updB_none hw];rfl];simp only [ite_self]
   rw [e1]
   rcases foldB_last l (i+1) (n+e.nv) k with h|⟨j,e', h1,h2,h3,h4⟩
   ·exact .inl h
   ·refine .inr ⟨j+1,e', h1,by rw [show i+(j+1)=i+1+j by omega];exact h2,h3,?_⟩
    rw [show n+nV ((e::l).take (j+1))=n+e.nv+nV (l.take j) by show n+(e.nv+nV (l.take j))=_;omega]
    exact h4
theorem foldB_ty{b:Nat}{L:Nat→Bool}(l:List PE)(i n:Nat)(k:Blk):(foldB b L i n l k).ty=k.ty∧(foldB b L i n l k).soft=k.soft∧(k.own=true→(foldB b L i n l k).own=true)∧((foldB b L i n l k).own=false→foldB b L i n l k=k):=by
 rcases foldB_last l i n k (b:=b) (L:=L) with h|⟨j,e,h1,h2,h3,h4⟩
 ·rw [h];exact⟨rfl,rfl,fun h=>h,fun _=>rfl⟩
 ·obtain⟨c,f,hu,_⟩:=updB_some (n:=n+nV (l.take j)) (k:=k) h3
  rw [hu] at h4
  rw [← Option.some.inj h4]
  exact⟨rfl,rfl,fun _=>rfl,fun h=>by cases h⟩
theorem settled_iff{b:Nat}{L:Nat→Bool}:∀ (l:List PE) (i:Nat),settled b L i l=true↔∃ j e,nth l j=some e∧L (i+j)=true∧sett b e=true
 | [],i=>⟨fun h=>(by cases h),fun⟨j,e,h,_⟩=>(by cases j<;>cases h)⟩
 | e::l,i=>by
  show ((L i&&sett b e)||settled b L (i+1) l)=true↔_
  rw [Bool.or_eq_true,Bool.and_eq_true,settled_iff l (i+1)]
  constructor
  ·rintro (⟨h1,h2⟩|⟨j,e', h1,h2,h3⟩)
   ·exact⟨0,e,rfl,h1,h2⟩
   ·exact⟨j+1,e', h1,by rw [show i+(j+1)=i+1+j by omega];exact h2,h3⟩
  ·rintro⟨j,e', h1,h2,h3⟩
   cases j with
   | zero=>cases h1;exact .inl ⟨h2,h3⟩
   | succ j=>exact .inr ⟨j,e', h1,by rw [show i+1+j=i+(j+1) by omega];exact h2,h3⟩
theorem alAt_app:∀ (l r:List PE) (q i:Nat),alAt q i (l++r)=if q<nAl l then alAt q i l else alAt (q-nAl l) (i+l.length) r
 | [],r,q,i=>by simp [nAl]
 | .ev v (.al t c rw_) rd::l,r,0,i=>by simp [alAt,nAl]
 | .ev v (.al t c rw_) rd::l,r,q+1,i=>by
  simp only [List.cons_append,alAt,nAl,List.length_cons,Nat.add_lt_add_iff_right,Nat.add_sub_add_right]
  rw [alAt_app l r q (i+1),show i+1+l.length=i+(l.length+1) by omega]
 | .ev v (.st b c) rd::l,r,q,i=>by
  simp only [List.cons_append,alAt,nAl,List.length_cons];rw [alAt_app l r q (i+1),show i+1+l.length=i+(l.length+1) by omega];rfl
 | .ev v .non rd::l,r,q,i=>by
  simp only [List.cons_append,alAt,nAl,List.length_cons];rw [alAt_app l r q (i+1),show i+1+l.length=i+(l.length+1) by omega];rfl
 | .no::l,r,q,i=>by
  simp only [List.cons_append,alAt,nAl,List.length_cons];rw [alAt_app l r q (i+1),show i+1+l.length=i+(l.length+1) by omega];rfl
 | .ca _ _ _ _ _ _::l,r,q,i=>by
  simp only [List.cons_append,alAt,nAl,List.length_cons];rw [alAt_app l r q (i+1),show i+1+l.length=i+(l.length+1) by omega];rfl
theorem alAt_at:∀ (l:List PE) (q i j:Nat) (k:Blk),alAt q i l=some (j,k)→i≤j∧q=nAl (l.take (j-i))∧∃ v row rd,nth l (j-i)=some (.ev v (.al k.ty k.cells row) rd)∧k=⟨k.ty,k.cells,true,none,softT k.ty row⟩
 | .ev v (.al t c row) rd::l,0,i,j,k,h=>by
  cases h
  refine⟨Nat.le_refl _,?_,v,row,rd,?_,rfl⟩
  ·rw [Nat.sub_self];rfl
  ·rw [Nat.sub_self];rfl
 | .ev v (.al t c row) rd::l,q+1,i,j,k,h=>by
  obtain⟨h1,h2,h3⟩:=alAt_at l q (i+1) j k h
  refine⟨by omega,?_,?_⟩
  ·rw [show j-i=(j-(i+1))+1 by omega];simp [nAl,← h2]
  ·rw [show j-i=(j-(i+1))+1 by omega];exact h3
 | .ev v (.st b c) rd::l,q,i,j,k,h=>by
  obtain⟨h1,h2,h3⟩:=alAt_at l q (i+1) j k h
  refine⟨by omega,?_,?_⟩
  ·rw [show j-i=(j-(i+1))+1 by omega];simp [nAl,← h2]
  ·rw [show j-i=(j-(i+1))+1 by omega];exact h3
 | .ev v .non rd::l,q,i,j,k,h=>by
  obtain⟨h1,h2,h3⟩:=alAt_at l q (i+1) j k h
  refine⟨by omega,?_,?_⟩
  ·rw [show j-i=(j-(i+1))+1 by omega];simp [nAl,← h2]
  ·rw [show j-i=(j-(i+1))+1 by omega];exact h3
 | .no::l,q,i,j,k,h=>by
  obtain⟨h1,h2,h3⟩:=alAt_at l q (i+1) j k h
  refine⟨by omega,?_,?_⟩
  ·rw [show j-i=(j-(i+1))+1 by omega];simp [nAl,← h2]
  ·rw [show j-i=(j-(i+1))+1 by omega];exact h3
 | .ca _ _ _ _ _ _::l,q,i,j,k,h=>by
  obtain⟨h1,h2,h3⟩:=alAt_at l q (i+1) j k h
  refine⟨by omega,?_,?_⟩
  ·rw [show j-i=(j-(i+1))+1 by omega];simp [nAl,← h2]
  ·rw [show j-i=(j-(i+1))+1 by omega];exact h3
theorem mkV_app:∀ (l r:List PE) (q i:Nat),mkV q i (l++r)=if q<nV l then mkV q i l else mkV (q-nV l) (i+l.length) r
 | [],r,q,i=>by simp [nV]
 | .ca v nk nv fl st rs::l,r,q,i=>by
  simp only [List.cons_append,mkV,nV,PE.nv,List.length_cons]
  by_cases h:q<nv
  ·have hb:Nat.blt q nv=true:=by rw [Nat.blt_eq];exact h
   have h3:q<nv+nV l:=by omega
   simp only [hb,h3,if_true]
  ·have hb:Nat.blt q nv=false:=by cases e:Nat.blt q nv with|false=>rfl|true=>exact absurd (blt_lt e) h
   simp only [hb,Bool.false_eq_true,if_false]
   rw [mkV_app l r (q-nv) (i+1),show i+1+l.length=i+(l.length+1) by omega]
   by_cases h2:q-nv<nV l
   ·have h3:q<nv+nV l:=by omega
    simp only [h2,h3,if_true]
   ·have h3:¬ q<nv+nV l:=by omega
    simp only [h2,h3,if_false]
    rw [Nat.sub_sub]
 | .ev _ _ _::l,r,q,i=>by
  simp only [List.cons_append,mkV,nV,PE.nv,List.length_cons,Nat.zero_add];rw [mkV_app l r q (i+1),show i+1+l.length=i+(l.length+1) by omega]
 | .no::l,r,q,i=>by
  simp only [List.cons_append,mkV,nV,PE.nv,List.length_cons,Nat.zero_add];rw [mkV_app l r q (i+1),show i+1+l.length=i+(l.length+1) by omega]
theorem mkV_at:∀ (l:List PE) (q i j:Nat),mkV q i l=some j→i≤j∧∃ v nk nv st rs,nth l (j-i)=some (.ca v nk nv none st rs)∧nV (l.take (j-i))≤q∧q<nV (l.take (j-i))+nv
 | .ca v nk nv fl st rs::l,q,i,j,h=>by
  simp only [mkV] at h
  split at h
  ·rename_i hb
   have hb:=blt_lt hb
   cases fl with
   | some _=>cases h
   | none =>
    cases h
    refine⟨Nat.le_refl _,v,nk,nv,st,rs,?_,?_,?_⟩
    ·rw [Nat.sub_self];rfl
    ·rw [Nat.sub_self];exact Nat.zero_le _
    ·rw [Nat.sub_self];simpa [nV] using hb
  ·rename_i hb
   have hb:¬ q<nv:=fun e=>hb (by rw [Nat.blt_eq];exact e)
   obtain⟨h1,v', nk', nv', st', rs', h2,h3,h4⟩:=mkV_at l (q-nv) (i+1) j h
   refine⟨by omega,v', nk', nv', st', rs', ?_,?_,?_⟩
   ·rw [show j-i=(j-(i+1))+1 by omega];exact h2
   ·rw [show j-i=(j-(i+1))+1 by omega];simp only [List.take_succ_cons,nV,PE.nv];omega
   ·rw [show j-i=(j-(i+1))+1 by omega];simp only [List.take_succ_cons,nV,PE.nv];omega
 | .ev _ _ _::l,q,i,j,h=>by
  obtain⟨h1,v', nk', nv', st', rs', h2,h3,h4⟩:=mkV_at l q (i+1) j h
  refine⟨by omega,v', nk', nv', st', rs', ?_,?_,?_⟩
  ·rw [show j-i=(j-(i+1))+1 by omega];exact h2
  ·rw [show j-i=(j-(i+1))+1 by omega];simpa only [List.take_succ_cons,nV,PE.nv,Nat.zero_add] using h3
  ·rw [show j-i=(j-(i+1))+1 by omega];simpa only [List.take_succ_cons,nV,PE.nv,Nat.zero_add] using h4
 | .no::l,q,i,j,h=>by
  obtain⟨h1,v', nk', nv', st', rs', h2,h3,h4⟩:=mkV_at l q (i+1) j h
  refine⟨by omega,v', nk', nv', st', rs', ?_,?_,?_⟩
  ·rw [show j-i=(j-(i+1))+1 by omega];exact h2
  ·rw [show j-i=(j-(i+1))+1 by omega];simpa only [List.take_succ_cons,nV,PE.nv,Nat.zero_add] using h3
  ·rw [show j-i=(j-(i+1))+1 by omega];simpa only [List.take_succ_cons,nV,PE.nv,Nat.zero_add] using h4
theorem nV_app:∀ (l r:List PE),nV (l++r)=nV l+nV r
 | [],r=>by simp [nV]
 | e::l,r=>by simp only [List.cons_append,nV,nV_app l r];omega
theorem nK_app:∀ (l r:List PE),nK (l++r)=nK l+nK r
 | [],r=>by simp [nK]
 | e::l,r=>by simp only [List.cons_append,nK,nK_app l r];omega
theorem nAl_app:∀ (l r:List PE),nAl (l++r)=nAl l+nAl r
 | [],r=>by simp [nAl]
 | .ev _ (.al _ _ _) _::l,r=>by simp only [List.cons_append,nAl,nAl_app l r];omega
 | .ev _ (.st _ _) _::l,r=>by simp only [List.cons_append,nAl,nAl_app l r]
 | .ev _ .non _::l,r=>by simp only [List.cons_append,nAl,nAl_app l r]
 | .ca _ _ _ _ _ _::l,r=>by simp only [List.cons_append,nAl,nAl_app l r]
 | .no::l,r=>by simp only [List.cons_append,nAl,nAl_app l r]
theorem pre_lt{ops:Array Oper}(h:preB ops=true):∀ (i j:Nat),i<ops.size→j<ops.size→pre ops i j=true→j<i:=by
 intro i
 induction i using Nat.strongRecOn with
 | _ i ih =>
  intro j hi hj hp
  have dir:∀ a,direct ops i a=true→a<i:=fun a ha=>by
   cases ho:ops[i]? with
   | none=>unfold direct at ha;rw [ho] at ha;cases ha
   | some o =>
    obtain⟨e,he,hb,hon⟩:=(direct_of ho).1 ha
    rw [← hon];exact back_spec h ho he hb
  rcases pre_spec h hi hj hp with h1|⟨k,hk,h1,h2⟩
  ·exact dir j h1
  ·have hki:=dir k h1
   exact Nat.lt_trans (ih k hki j hk hj h2) hki
section
variable {P:Program} {S:Nat→Prop} {W:World} {ops:Array Oper} {m:MS} {κ0 κ:List Value} {Φ0 Φ:List VP} {pl:List PE}
theorem take_app{α:Type}{l:List α}{x:α}{i:Nat}(h:i≤l.length):(l++[x]).take i=l.take i:=List.take_append_of_le_length h
theorem next_ca{r:SV}{nk nv:Nat}{fl:Option Nat}{st rs:List Nat}(h:nextD P ops m pl=some (.ca r nk nv fl st rs)):False:=by
 unfold nextD at h
 split at h
 ·cases h
 ·split at h
  ·split at h<;>cases h
  ·cases h
  ·cases h
theorem Good.len(g:Good P S W ops m κ0 Φ0 pl κ Φ):κ.length=κ0.length+nK pl∧Φ.length=Φ0.length+nV pl:=by
 induction g with
 | nil=>exact⟨rfl,rfl⟩
 | @ev pl κ Φ e g hn ih =>
  have:nK [e]=0∧nV [e]=0:=by
   cases e with
   | ev _ _ _=>exact⟨rfl,rfl⟩
   | no=>exact⟨rfl,rfl⟩
   | ca r nk nv fl st rs=>exact (next_ca hn).elim
  rw [nK_app,nV_app,this.1,this.2];exact ih
 | ca g ho h1 ih =>
  rw [nK_app,nV_app,List.length_append,List.length_append]
  simp only [nK,nV,PE.nk,PE.nv]
  omega
 | co g ho ih =>
  rw [nK_app,nV_app,List.length_append]
  simp only [nK,nV,PE.nk,PE.nv,List.length_cons,List.length_nil]
  omega
 | va g ho h1 ih =>
  rw [nK_app,nV_app,List.length_append]
  simp only [nK,nV,PE.nk,PE.nv]
  omega
inductive EntD (P:Program) (S:Nat→Prop) (W:World) (ops:Array Oper) (m:MS) (κ0:List Value) (Φ0:List VP) (pl:List PE) (κ:List Value) (Φ:List VP) (i:Nat):PE→Prop
 | ev {e}:nextD P ops m (pl.take i)=some e→EntD P S W ops m κ0 Φ0 pl κ Φ i e
 | ca {r κi κs more Φi φs more' st rs}:κ=κi++(κs++more)→Φ=Φi++(φs++more')→κi.length=κ0.length+nK (pl.take i)→Φi.length=Φ0.length+nV (pl.take i)→Owes P S W ops m κi Φi (pl.take i) r κs φs st rs→(∀ n,(kat κs n).oneCell'=true)→EntD P S W ops m κ0 Φ0 pl κ Φ i (.ca r κs.length φs.length none st rs)
 | co {κi more Φi φ more' b st rs}:κ=κi++more→Φ=Φi++(φ::more')→κi.length=κ0.length+nK (pl.take i)→Φi.length=Φ0.length+nV (pl.take i)→OwesO P S W ops m κi Φi (pl.take i) b φ st rs→EntD P S W ops m κ0 Φ0 pl κ Φ i (.ca (.s (.o (.p b 0))) 0 1 (some b) st rs)
 | va {r κi κs more Φi more'}:κ=κi++(κs++more)→Φ=Φi++more'→κi.length=κ0.length+nK (pl.take i)→OwesV P S W ops m κi Φi (pl.take i) r κs→EntD P S W ops m κ0 Φ0 pl κ Φ i (.ca r κs.length 0 none [] [])
theorem EntD.more{e:PE}{i:Nat}{x:PE}{a:List Value}{c:List VP}(hi:i≤pl.length)(h:EntD P S W ops m κ0 Φ0 pl κ Φ i e):EntD P S W ops m κ0 Φ0 (pl++[x]) (κ++a) (Φ++c) i e:=by
 have ht:(pl++[x]).take i=pl.take i:=take_app hi
 cases h with
 | ev h=>exact .ev (by rw [ht];exact h)
 | @ca r κi κs mo Φi φs mo' st rs h1 h2 h3 h4 h5 h6=>exact .ca (κi:=κi) (more:=mo++a) (Φi:=Φi) (more' := mo'++c) (by rw [h1];simp) (by rw [h2];simp) (by rw [ht];exact h3) (by rw [ht];exact h4) (by rw [ht];exact h5) h6
 | @co κi mo Φi φ mo' b st rs h1 h2 h3 h4 h5=>exact .co (κi:=κi) (more:=mo++a) (Φi:=Φi) (φ:=φ) (more' := mo'++c) (by rw [h1];simp) (by rw [h2];simp) (by rw [ht];exact h3) (by rw [ht];exact h4) (by rw [ht];exact h5)
 | @va r κi κs mo Φi mo' h1 h2 h3 h4=>exact .va (κi:=κi) (more:=mo++a) (Φi:=Φi) (more' := mo'++c) (by rw [h1];simp) (by rw [h2];simp) (by rw [ht];exact h3) (by rw [ht];exact h4)
theorem Good.at_(g:Good P S W ops m κ0 Φ0 pl κ Φ):∀ i e,nth pl i=some e→EntD P S W ops m κ0 Φ0 pl κ Φ i e:=by
 induction g with
 | nil=>intro i e h;cases i<;>cases h
 | @ev pl κ Φ e' g hn ih =>
  intro i e h
  rcases nth_snoc h with h|⟨rfl,rfl⟩
  ·have:=(ih i e h).more (x:=e') (a:=[]) (c:=[]) (Nat.le_of_lt (nth_lt h))
   rw [List.append_nil,List.append_nil] at this;exact this
  ·exact .ev (by rw [take_app (Nat.le_refl _),List.take_length];exact hn)
 | @ca pl κ Φ r κs φs st rs g ho h1 ih =>
  intro i e h
  rcases nth_snoc h with h|⟨rfl,rfl⟩
  ·exact (ih i e h).more (Nat.le_of_lt (nth_lt h))
  ·exact .ca (κi:=κ) (Φi:=Φ) (more:=[]) (more' := []) (by simp) (by simp) (by rw [take_app (Nat.le_refl _),List.take_length];exact g.len.1) (by rw [take_app (Nat.le_refl _),List.take_length];exact g.len.2) (by rw [take_app (Nat.le_refl _),List.take_length];exact ho) h1
 | @co pl κ Φ b φ st rs g ho ih =>
  intro i e h
  rcases nth_snoc h with h|⟨rfl,rfl⟩
  ·have:=(ih i e h).more (x:=.ca (.s (.o (.p b 0))) 0 1 (some b) st rs) (a:=[]) (c:=[φ]) (Nat.le_of_lt (nth_lt h))
   rw [List.append_nil] at this;exact this
  ·exact .co (κi:=κ) (Φi:=Φ) (φ:=φ) (more:=[]) (more' := []) (by simp) (by simp) (by rw [take_app (Nat.le_refl _),List.take_length];exact g.len.1) (by rw [take_app (Nat.le_refl _),List.take_length];exact g.len.2) (by rw [take_app (Nat.le_refl _),List.take_length];exact ho)
 | @va pl κ Φ r κs g ho h1 ih =>
  intro i e h
  rcases nth_snoc h with h|⟨rfl,rfl⟩
  ·have:=(ih i e h).more (x:=.ca r κs.length 0 none [] []) (a:=κs) (c:=[]) (Nat.le_of_lt (nth_lt h))
   rw [List.append_nil] at this;exact this
  ·exact .va (κi:=κ) (Φi:=Φ) (more:=[]) (more' := []) (by simp) (by simp) (by rw [take_app (Nat.le_refl _),List.take_length];exact g.len.1) (by rw [take_app (Nat.le_refl _),List.take_length];exact ho)
theorem Good.one(g:Good P S W ops m κ0 Φ0 pl κ Φ)(h0:∀ n,(kat κ0 n).oneCell'=true):∀ n,(kat κ n).oneCell'=true:=by
 induction g with
 | nil=>exact h0
 | ev g hn ih=>exact ih
 | co g ho ih=>exact ih
 | ca g ho h1 ih =>
  intro n
  rcases kat_or _ _ n with h|⟨j,h⟩
  ·rw [h];exact ih n
  ·rw [h];exact h1 j
 | va g ho h1 ih =>
  intro n
  rcases kat_or _ _ n with h|⟨j,h⟩
  ·rw [h];exact ih n
  ·rw [h];exact h1 j
theorem Good.pre(g:Good P S W ops m κ0 Φ0 pl κ Φ):(∃ more,κ=κ0++more)∧∃ more,Φ=Φ0++more:=by
 induction g with
 | nil=>exact⟨⟨[],by simp⟩,[],by simp⟩
 | ev g hn ih=>exact ih
 | ca g ho h1 ih =>
  obtain⟨⟨a,ha⟩,b,hb⟩:=ih
  exact⟨⟨a++_,by rw [ha,List.append_assoc]⟩,b++_,by rw [hb,List.append_assoc]⟩
 | co g ho ih =>
  obtain⟨⟨a,ha⟩,b,hb⟩:=ih
  exact⟨⟨a,ha⟩,b++_,by rw [hb,List.append_assoc]⟩
 | va g ho h1 ih =>
  obtain⟨⟨a,ha⟩,b⟩:=ih
  exact⟨⟨a++_,by rw [ha,List.append_assoc]⟩,b⟩
structure AgreeL (m:MS) (pl:List PE) (L:Nat→Bool) (E E' : Env):Prop where
 b:∀ b,(b<m.bl.length∨∃ j k,alAt (b-m.bl.length) 0 pl=some (j,k)∧L j=true)→E'.β b=E.β b
 k:E'.κ=E.κ
 v:∀ n,(At.v n).inL m pl L=true→E'.ℓ n=E.ℓ n
variable {L L' : Nat→Bool} {E E' : Env}
theorem inL_b{b:Nat}(h:(Nat.blt b m.bl.length||match alAt (b-m.bl.length) 0 pl with|some (j,_)=>L j|none=>false)=true):b<m.bl.length∨∃ j k,alAt (b-m.bl.length) 0 pl=some (j,k)∧L j=true:=by
 rw [Bool.or_eq_true] at h
 rcases h with h|h
 ·exact .inl (blt_lt h)
 ·split at h
  ·rename_i j k hk;exact .inr ⟨j,k,hk,h⟩
  ·cases h
theorem At.agree(s:AgreeL m pl L E E'){a:At}(h:a.inL m pl L=true):a.d E'=a.d E:=by
 cases a with
 | v n=>exact s.v n h
 | k n=>show kat E'.κ n=_;rw [s.k];rfl
 | c x=>rfl
 | p b off=>show Value.pointer (some ⟨E'.β b,off,none⟩)=_;rw [s.b b (inL_b h)];rfl
 | sl b off n c=>show Value.slice (some ⟨E'.β b,off,none⟩) n c=_;rw [s.b b (inL_b h)];rfl
 | ls b n c=>show Value.slice (some ⟨E'.β b,0,none⟩) n c=_;rw [s.b b (inL_b h)];rfl
 | fn f bs =>
  show Value.func (.func f) #[] ⟨bs.map fun b=>.pointer (some ⟨E'.β b,0,none⟩)⟩=.func (.func f) #[] ⟨bs.map fun b=>.pointer (some ⟨E.β b,0,none⟩)⟩
  rw [List.map_congr_left fun b hb=>by rw [s.b b (inL_b (List.all_eq_true.1 h b hb))]]
 | fm f ns =>
  show Value.func (.func f) #[.agg ⟨ns.map E'.ℓ⟩] #[]=.func (.func f) #[.agg ⟨ns.map E.ℓ⟩] #[]
  rw [List.map_congr_left fun n hn=>s.v n (List.all_eq_true.1 h n hn)]
theorem At.agreeL(s:AgreeL m pl L E E'){l:List At}(h:l.all (At.inL m pl L)=true):l.map (At.d E')=l.map (At.d E) :=
 List.map_congr_left fun a ha=>At.agree s (List.all_eq_true.1 h a ha)
theorem S1.agree(s:AgreeL m pl L E E'){a:S1}(h:a.inL m pl L=true):a.d E'=a.d E:=by
 cases a with
 | o a =>
  have h:[a].all (At.inL m pl L)=true:=h
  exact At.agree s (by simpa using h)
 | agg l =>
  have h:l.all (At.inL m pl L)=true:=h
  show Value.agg ⟨l.map (At.d E')⟩=.agg ⟨l.map (At.d E)⟩
  rw [At.agreeL s h]
theorem SV.agree(s:AgreeL m pl L E E'){a:SV}(h:a.inL m pl L=true):a.d E'=a.d E:=by
 cases a with
 | s a=>exact S1.agree s h
 | tup l =>
  show Value.tuple ⟨l.map (S1.d E')⟩=.tuple ⟨l.map (S1.d E)⟩
  rw [List.map_congr_left fun a ha=>S1.agree s (List.all_eq_true.1 h a ha)]
theorem At.mono(hL:∀ j,L j=true→L' j=true){a:At}(h:a.inL m pl L=true):a.inL m pl L'=true:=by
 have hb:∀ b,(Nat.blt b m.bl.length||match alAt (b-m.bl.length) 0 pl with|some (j,_)=>L j|none=>false)=true→(Nat.blt b m.bl.length||match alAt (b-m.bl.length) 0 pl with|some (j,_)=>L' j|none=>false)=true:=by
  intro b h
  rw [Bool.or_eq_true] at h ⊢
  rcases h with h|h
  ·exact .inl h
  ·right
   split at h
   ·rename_i j k hk;exact hL j h
   ·cases h
 have hv:∀ n,(Nat.blt n m.nv||match mkV (n-m.nv) 0 pl with|some j=>L j|none=>false)=true→(Nat.blt n m.nv||match mkV (n-m.nv) 0 pl with|some j=>L' j|none=>false)=true:=by
  intro n h
  rw [Bool.or_eq_true] at h ⊢
  rcases h with h|h
  ·exact .inl h
  ·right
   split at h
   ·rename_i j hj;exact hL j h
   ·cases h
 cases a with
 | v n=>exact hv n h
 | k n=>exact h
 | c x=>rfl
 | p b off=>exact hb b h
 | sl b off n c=>exact hb b h
 | ls b n c=>exact hb b h
 | fn f bs=>exact List.all_eq_true.2 fun b h1=>hb b (List.all_eq_true.1 h b h1)
 | fm f ns=>exact List.all_eq_true.2 fun n h1=>hv n (List.all_eq_true.1 h n h1)
theorem At.monoL(hL:∀ j,L j=true→L' j=true){l:List At}(h:l.all (At.inL m pl L)=true):l.all (At.inL m pl L')=true :=
 List.all_eq_true.2 fun a ha=>At.mono hL (List.all_eq_true.1 h a ha)
theorem SV.mono(hL:∀ j,L j=true→L' j=true){a:SV}(h:a.inL m pl L=true):a.inL m pl L'=true:=by
 cases a with
 | s a=>exact At.monoL hL h
 | tup l=>exact List.all_eq_true.2 fun a ha=>At.monoL hL (List.all_eq_true.1 h a ha)
structure PlanOk (ops:Array Oper) (m:MS) (pl:List PE):Prop where
 len:pl.length=ops.size
 pre:preB ops=true
 apart:apartB ops=true
 ok:m.okB=true
 ent:∀ i e,nth pl i=some e→entryB ops m pl i e=true
 dst:∀ i d,i<ops.size→dstOf ops i=some d→d<m.fr.length
 bits:∀ j q,j<ops.size→Rgn.pre ops j q=true→q<ops.size
theorem plan_ok(h:planB ops m pl=true):PlanOk ops m pl:=by
 simp only [planB,Bool.and_eq_true] at h
 obtain⟨⟨⟨⟨⟨⟨h1,h2⟩,h3⟩,h4⟩,h5⟩,h6⟩,h7⟩:=h
 have h1:=Nat.eq_of_beq_eq_true h1
 refine⟨h1,h2,h3,h4,fun i e he=>?_,fun i d hi hd=>?_,fun j q hj hq=>?_⟩
 ·have:=all_range h5 (show i<ops.size by rw [← h1];exact nth_lt he)
  rw [he] at this;exact this
 ·have:=all_range h6 hi
  rw [hd] at this;exact blt_lt this
 ·have:=blt_lt (all_range h7 hj)
  refine Nat.lt_of_not_le fun hle=>?_
  have h8:(Region.before ops).getD j 0<2^q:=Nat.lt_of_lt_of_le this (Nat.pow_le_pow_right (by decide) hle)
  have h9:((Region.before ops).getD j 0).testBit q=true:=hq
  rw [Nat.testBit_lt_two_pow h8] at h9
  cases h9
variable (H:PlanOk ops m pl)
include H
theorem PlanOk.val{i:Nat}{e:PE}(h:nth pl i=some e):e.val.inL m pl (fun q=>Rgn.pre ops i q||Nat.beq q i)=true:=by
 have:=H.ent i e h
 simp only [entryB,Bool.and_eq_true] at this
 exact this.1
theorem PlanOk.al{i:Nat}{v:SV}{ty:TypeId}{cells:List At}{row rd:Option Nat}(h:nth pl i=some (.ev v (.al ty cells row) rd)):cells.all (At.inL m pl (Rgn.pre ops i))=true:=by
 have:=H.ent i _ h
 simp only [entryB,Bool.and_eq_true] at this
 exact this.2
omit H in
theorem alB_b{b:Nat}(h:alB m pl L b=true):b<m.bl.length∨∃ j k,alAt (b-m.bl.length) 0 pl=some (j,k)∧L j=true:=inL_b h
theorem PlanOk.wr{i b:Nat}{e:PE}(h:nth pl i=some e)(hw:wrt b e=true):alB m pl (Rgn.pre ops i) b=true ∧
  ∀ j e', nth pl j=some e'→j≠i→(touch e' b=true∨wrt b e'=true)→Rgn.pre ops i j=true∨Rgn.pre ops j i=true:=by
 have:=H.ent i _ h
 have key:alB m pl (Rgn.pre ops i) b=true∧soleB ops pl i b=true:=by
  cases e with
  | no=>cases hw
  | ev v ef rd =>
   cases ef with
   | non=>cases hw
   | al _ _ _=>cases hw
   | st b' cells =>
    have hw:Nat.beq b' b=true:=hw
    have hb:=Nat.eq_of_beq_eq_true hw
    subst hb
    simp only [entryB,Bool.and_eq_true] at this
    exact⟨this.2.1.2,this.2.2⟩
  | ca r nk nv fl st rs =>
   cases fl with
   | none=>cases hw
   | some b' =>
    have hw:Nat.beq b' b=true:=hw
    have hb:=Nat.eq_of_beq_eq_true hw
    subst hb
    simp only [entryB,Bool.and_eq_true] at this
    exact⟨this.2.1.1.1.2,this.2.1.1.2⟩
 refine⟨key.1,fun j e' hj hne ht=>?_⟩
 have hs:=all_range key.2 (nth_lt hj)
 rw [hj] at hs
 simp only [Bool.or_eq_true,Bool.not_eq_true', cmpB'] at hs
 rcases hs with hs|hs|hs
 ·exact absurd (Nat.eq_of_beq_eq_true hs) hne
 ·rw [Bool.or_eq_false_iff] at hs
  rcases ht with ht|ht
  ·rw [ht] at hs;cases hs.1
  ·rw [ht] at hs;cases hs.2
 ·exact hs
theorem PlanOk.fl{i b nk nv:Nat}{r:SV}{st rs:List Nat}(h:nth pl i=some (.ca r nk nv (some b) st rs)):nv=1∧∃ k,blkL m (pl.take i) (Rgn.pre ops i) b=some k∧k.soft=true∧hasN st b=false:=by
 have:=H.ent i _ h
 simp only [entryB,Bool.and_eq_true] at this
 refine⟨Nat.eq_of_beq_eq_true this.2.1.1.1.1,?_⟩
 have h2:=this.2.1.2
 split at h2
 ·rename_i k hk
  rw [Bool.and_eq_true,Bool.not_eq_true'] at h2
  exact⟨k,hk,h2.1,h2.2⟩
 ·cases h2
omit H in
theorem hasN_mem:∀ {l:List Nat} {b:Nat},hasN l b=true→b ∈ l
 | a::l,b,h=>by
  have h:(Nat.beq a b||hasN l b)=true:=h
  rw [Bool.or_eq_true] at h
  rcases h with h|h
  ·rw [Nat.eq_of_beq_eq_true h];exact List.mem_cons_self
  ·exact List.mem_cons_of_mem _ (hasN_mem h)
theorem PlanOk.stl{i b:Nat}{e:PE}(h:nth pl i=some e)(hw:sett b e=true):touch e b=true∧(∃ k,blkL m (pl.take i) (Rgn.pre ops i) b=some k∧k.own=true) ∧
  ∀ j e', nth pl j=some e'→j≠i→wrt b e'=true→Rgn.pre ops i j=true∨Rgn.pre ops j i=true:=by
 cases e with
 | no=>cases hw
 | ev v ef rd=>cases hw
 | ca r nk nv fl st rs =>
  have:=H.ent i _ h
  simp only [entryB,Bool.and_eq_true] at this
  have h3:=List.all_eq_true.1 this.2.2 b (hasN_mem hw)
  simp only [Bool.and_eq_true] at h3
  obtain⟨⟨⟨_,h4⟩,h5⟩,h6⟩:=h3
  refine⟨by show (hasN rs b||_)=true;rw [h6];rfl,?_,fun j e' hj hne ht=>?_⟩
  ·split at h5
   ·rename_i k hk;exact⟨k,hk,h5⟩
   ·cases h5
  ·have hs:=all_range h4 (nth_lt hj)
   rw [hj] at hs
   simp only [Bool.or_eq_true,Bool.not_eq_true', cmpB'] at hs
   rcases hs with hs|hs|hs
   ·exact absurd (Nat.eq_of_beq_eq_true hs) hne
   ·rw [ht] at hs;cases hs
   ·exact hs
theorem PlanOk.stc{i:Nat}{v:SV}{b:Nat}{cells:List At}{rd:Option Nat}(h:nth pl i=some (.ev v (.st b cells) rd)):cells.all (At.inL m pl (Rgn.pre ops i))=true:=by
 have:=H.ent i _ h
 simp only [entryB,Bool.and_eq_true] at this
 exact this.2.1.1
omit H in
theorem nth_some_of_lt{α:Type}{l:List α}{i:Nat}(h:i<l.length):∃ x,nth l i=some x:=⟨l[i],by rw [nth_eq];exact List.getElem?_eq_getElem h⟩
omit H in
theorem take_add(pl:List PE)(i:Nat):pl=pl.take i++pl.drop i:=(List.take_append_drop i pl).symm
omit H in
theorem nth_drop{α:Type}{l:List α}{i j:Nat}{x:α}(h:nth (l.drop i) j=some x):nth l (i+j)=some x:=by
 rw [nth_eq] at h ⊢;rw [List.getElem?_drop] at h;exact h
theorem PlanOk.foldT{i b n:Nat}{k:Blk}(hi:i≤ops.size):foldB b (Rgn.pre ops i) 0 n (pl.take i) k=foldB b (Rgn.pre ops i) 0 n pl k:=by
 conv=>rhs;rw [take_add pl i]
 rw [foldB_app]
 refine (foldB_id _ _ _ _ fun j e he hw=>?_).symm
 have hj:=nth_drop he
 have hlt:=nth_lt hj
 rw [H.len] at hlt
 have hlen:(pl.take i).length=i:=by rw [List.length_take,H.len];omega
 rw [hlen,Nat.zero_add]
 cases hp:Rgn.pre ops i (i+j) with
 | false=>rfl
 | true=>exact absurd (pre_lt H.pre i (i+j) (by omega) hlt hp) (by omega)
theorem PlanOk.view{i:Nat}{e:PE}{b:Nat}{k:Blk}(he:nth pl i=some e)(hL:L i=false)(hpre:∀ j,j<ops.size→Rgn.pre ops i j=true→L j=true)(hcl:∀ p q,p<ops.size→q<ops.size→L p=true→Rgn.pre ops p q=true→L q=true)(ht:touch e b=true)(h:blkL m (pl.take i) (Rgn.pre ops i) b=some k):∃ s,blkL m pl L b=some ⟨k.ty,k.cells,k.own,k.fact,s⟩∧(k.soft=false→s=false)∧(wrt b e=true→k.soft=true→s=true):=by
 have hi:i<ops.size:=by rw [← H.len];exact nth_lt he
 have hlen:(pl.take i).length=i:=by rw [List.length_take];have:=nth_lt he;omega
 have hno:Rgn.pre ops i i=false:=by
  cases hp:Rgn.pre ops i i with
  | false=>rfl
  | true=>exact absurd (pre_lt H.pre i i hi hi hp) (Nat.lt_irrefl _)
 have hbase:∀ k0,base m (pl.take i) (Rgn.pre ops i) b=some k0→base m pl L b=some k0:=by
  intro k0 h
  unfold base at h ⊢
  by_cases hb:Nat.blt b m.bl.length=true
  ·rw [if_pos hb] at h ⊢;exact h
  ·rw [if_neg hb] at h ⊢
   cases h0:alAt (b-m.bl.length) 0 (pl.take i) with
   | none=>rw [h0] at h;cases h
   | some x =>
    obtain⟨j,k1⟩:=x
    rw [h0] at h
    simp only at h
    by_cases hp:Rgn.pre ops i j=true
    ·rw [if_pos hp] at h
     have h1:alAt (b-m.bl.length) 0 pl=some (j,k1):=by
      have ha:=alAt_app (pl.take i) (pl.drop i) (b-m.bl.length) 0
      rw [List.take_append_drop] at ha
      have hq:b-m.bl.length<nAl (pl.take i):=by
       obtain⟨_,h2,v,row,rd,h3,_⟩:=alAt_at _ _ 0 j k1 h0
       rw [Nat.sub_zero] at h2 h3
       have hc:=congrArg nAl (take_add (pl.take i) j)
       rw [nAl_app] at hc
       have h4:nAl ((pl.take i).drop j)≠0:=by
        cases hd:(pl.take i).drop j with
        | nil =>
         have:=nth_lt h3
         have h5:(pl.take i).length-j=0:=by rw [← List.length_drop,hd];rfl
         omega
        | cons x l =>
         have hx:x=.ev v (.al k1.ty k1.cells row) rd:=by
          have h6:((pl.take i).drop j)[0]? = some x:=by rw [hd];rfl
          rw [List.getElem?_drop,Nat.add_zero,← nth_eq,h3] at h6
          exact (Option.some.inj h6).symm
         subst hx
         simp [nAl]
       omega
      rw [ha,if_pos hq];exact h0
     rw [h1]
     simp only
     have hj:j<ops.size:=by
      obtain⟨_,_,v,row,rd,h3,_⟩:=alAt_at _ _ 0 j k1 h1
      rw [Nat.sub_zero] at h3
      rw [← H.len];exact nth_lt h3
     rw [if_pos (hpre j hj hp)]
     exact h
    ·rw [if_neg hp] at h;cases h
 unfold blkL at h ⊢
 cases hb:base m (pl.take i) (Rgn.pre ops i) b with
 | none=>rw [hb] at h;cases h
 | some k0 =>
  rw [hb] at h
  rw [hbase k0 hb]
  have hfold:foldB b (Rgn.pre ops i) 0 m.nv (pl.take i) k0=foldB b L 0 m.nv pl k0:=by
   rw [H.foldT (Nat.le_of_lt hi)]
   refine foldB_congr pl 0 m.nv k0 fun j e' hj hw=>?_
   rw [Nat.zero_add]
   have hjs:j<ops.size:=by rw [← H.len];exact nth_lt hj
   by_cases hji:j=i
   ·subst hji;rw [hno,hL]
   ·rcases (H.wr hj hw).2 i e he (fun e=>hji e.symm) (.inl ht) with hp|hp
    ·have h1:L j=false:=by
      cases hl:L j with
      | false=>rfl
      | true=>have:=hcl j i hjs hi hl hp;rw [hL] at this;cases this
     have h2:Rgn.pre ops i j=false:=by
      cases hq:Rgn.pre ops i j with
      | false=>rfl
      | true=>exact absurd (pre_lt H.pre i j hi hjs hq) (by have:=pre_lt H.pre j i hjs hi hp;omega)
     rw [h1,h2]
    ·rw [hpre j hjs hp,hp]
  have h:=Option.some.inj h
  subst h
  rw [hfold]
  refine⟨_,rfl,fun hs=>?_,fun hw hs=>?_⟩
  ·simp only [Bool.and_eq_false_iff] at hs ⊢
   rcases hs with hs|hs
   ·exact .inl hs
   ·right
    rw [Bool.not_eq_false'] at hs ⊢
    obtain⟨j,e', h1,h2,h3⟩:=(settled_iff _ 0).1 hs
    rw [Nat.zero_add] at h2
    refine (settled_iff _ 0).2 ⟨j,e', nth_take h1,?_,h3⟩
    rw [Nat.zero_add]
    exact hpre j (by rw [← H.len];exact nth_lt (nth_take h1)) h2
  ·simp only [Bool.and_eq_true,Bool.not_eq_true'] at hs ⊢
   refine⟨hs.1,?_⟩
   cases hst:settled b L 0 pl with
   | false=>rfl
   | true =>
    exfalso
    obtain⟨j,e', h1,h2,h3⟩:=(settled_iff _ 0).1 hst
    rw [Nat.zero_add] at h2
    have hjs:j<ops.size:=by rw [← H.len];exact nth_lt h1
    have hji:j≠i:=fun e=>by subst e;rw [hL] at h2;cases h2
    rcases (H.stl h1 h3).2.2 i e he (fun e=>hji e.symm) hw with hp|hp
    ·have:=hcl j i hjs hi h2 hp;rw [hL] at this;cases this
    ·have hlt:=pre_lt H.pre i j hi hjs hp
     have:settled b (Rgn.pre ops i) 0 (pl.take i)=true:=(settled_iff _ 0).2 ⟨j,e', by
      rw [nth_eq] at h1 ⊢;rw [List.getElem?_take,if_pos hlt];exact h1,by rw [Nat.zero_add];exact hp,h3⟩
     rw [hs.2] at this;cases this
theorem PlanOk.vis{i n:Nat}(hpre:∀ j,j<ops.size→Rgn.pre ops i j=true→L j=true)(h:visL m (pl.take i) (Rgn.pre ops i) n=true):visL m pl L n=true:=by
 unfold visL at h ⊢
 rw [Bool.or_eq_true] at h ⊢
 rcases h with h|h
 ·exact .inl h
 ·right
  rw [Bool.and_eq_true] at h ⊢
  refine⟨h.1,?_⟩
  have h:=h.2
  cases h0:mkV (n-m.nv) 0 (pl.take i) with
  | none=>rw [h0] at h;cases h
  | some j =>
   rw [h0] at h
   have hm:=mkV_app (pl.take i) (pl.drop i) (n-m.nv) 0
   rw [List.take_append_drop] at hm
   obtain⟨_,v,nk,nv,st,rs,h1,h2,h3⟩:=mkV_at _ _ 0 j h0
   rw [Nat.sub_zero] at h1 h2 h3
   have hq:n-m.nv<nV (pl.take i):=by
    have hc:=congrArg nV (take_add (pl.take i) j)
    rw [nV_app] at hc
    have h4:nv≤nV ((pl.take i).drop j):=by
     cases hd:(pl.take i).drop j with
     | nil =>
      have:=nth_lt h1
      have h5:(pl.take i).length-j=0:=by rw [← List.length_drop,hd];rfl
      omega
     | cons x l =>
      have hx:x=.ca v nk nv none st rs:=by
       have h6:((pl.take i).drop j)[0]? = some x:=by rw [hd];rfl
       rw [List.getElem?_drop,Nat.add_zero,← nth_eq,h1] at h6
       exact (Option.some.inj h6).symm
      subst hx
      simp [nV,PE.nv]
    omega
   rw [hm,if_pos hq,h0]
   have hj:j<ops.size:=by rw [← H.len];exact nth_lt (nth_take h1)
   exact hpre j hj h
end
section
variable {P:Program} {A S:Nat→Prop} {W:World} {ops:Array Oper} {m:MS} {κ0 κ:List Value} {Φ0 Φ:List VP} {pl:List PE} {L:Nat→Bool} {E E' E0:Env} {a0:Act} {u:Nat→Got} {w w' : World} {i:Nat} {e:PE} {o:Oper}
def ins(i:Nat)(L:Nat→Bool):Nat→Bool:=fun j=>j == i||L j
theorem ins_ne{j:Nat}(h:j≠i):ins i L j=L j:=by unfold ins;simp [h]
theorem ins_eq:ins i L i=true:=by unfold ins;simp
structure Ist (A S:Nat→Prop) (W:World) (ops:Array Oper) (m:MS) (κ:List Value) (Φ:List VP) (pl:List PE) (E0:Env) (a0:Act) (L:Nat→Bool) (u:Nat→Got) (w:World) (E:Env):Prop where
 same:Same m.bl.length m.nk m.nv E0 E
 inv:InvD A S W κ Φ E (blkL m pl L) (visL m pl L) w
 off:∀ j,L j=false→u j=Rgn.start ops a0 j
 on:∀ j e,nth pl j=some e→L j=true→(u j).v=e.val.d E
structure Closed (ops:Array Oper) (L:Nat→Bool) (i:Nat):Prop where
 out:L i=false
 pre:∀ j,j<ops.size→Rgn.pre ops i j=true→L j=true
 cl:∀ p q,p<ops.size→q<ops.size→L p=true→Rgn.pre ops p q=true→L q=true
variable (H:PlanOk ops m pl)
include H
theorem PlanOk.lt(he:nth pl i=some e):i<ops.size:=by rw [← H.len];exact nth_lt he
theorem PlanOk.tlen(he:nth pl i=some e):(pl.take i).length=i:=by have _h:=H;rw [List.length_take];have:=nth_lt he;omega
theorem PlanOk.valL(hcl:∀ p q,p<ops.size→q<ops.size→L p=true→Rgn.pre ops p q=true→L q=true){j:Nat}{e:PE}(he:nth pl j=some e)(hL:L j=true)(hlt:∀ q,Rgn.pre ops j q=true→q<ops.size):e.val.inL m pl L=true :=
 SV.mono (fun q hq=>by
  rw [Bool.or_eq_true] at hq
  rcases hq with hq|hq
  ·exact hcl j q (H.lt he) (hlt q hq) hL hq
  ·have:=Nat.eq_of_beq_eq_true hq;subst this;exact hL) (H.val he)
theorem PlanOk.preL{j:Nat}(hcl:∀ p q,p<ops.size→q<ops.size→L p=true→Rgn.pre ops p q=true→L q=true)(hj:j<ops.size)(hL:L j=true)(hlt:∀ q,Rgn.pre ops j q=true→q<ops.size){l:List At}(h:l.all (At.inL m pl (Rgn.pre ops j))=true):l.all (At.inL m pl L)=true :=
 have _h:=H
 At.monoL (fun q hq=>hcl j q hj (hlt q hq) hL hq) h
omit H in
theorem okB_inL{nk:Nat}{a:At}(h:a.okB m.bl.length m.nk m.nv=true):a.inL m pl L=true:=by
 cases a with
 | v n =>
  show (Nat.blt n m.nv||_)=true
  have h:Nat.blt n m.nv=true:=h
  rw [h];rfl
 | k n =>
  have h:Nat.blt n m.nk=true:=h
  show Nat.blt n (m.nk+nK pl)=true
  rw [Nat.blt_eq] at h ⊢;omega
 | c x=>rfl
 | p b off =>
  have h:Nat.blt b m.bl.length=true:=h
  show (Nat.blt b m.bl.length||_)=true
  rw [h];rfl
 | sl b off n c =>
  have h:Nat.blt b m.bl.length=true:=h
  show (Nat.blt b m.bl.length||_)=true
  rw [h];rfl
 | ls b n c =>
  have h:Nat.blt b m.bl.length=true:=h
  show (Nat.blt b m.bl.length||_)=true
  rw [h];rfl
 | fn f bs =>
  have h:bs.all (fun b=>Nat.blt b m.bl.length)=true:=h
  refine List.all_eq_true.2 fun b hb=>?_
  rw [List.all_eq_true.1 h b hb];rfl
 | fm f ns =>
  have h:ns.all (fun n=>Nat.blt n m.nv)=true:=h
  refine List.all_eq_true.2 fun n hn=>?_
  rw [List.all_eq_true.1 h n hn];rfl
theorem PlanOk.blkIn(hcl:∀ p q,p<ops.size→q<ops.size→L p=true→Rgn.pre ops p q=true→L q=true)(hlt:∀ j q,j<ops.size→Rgn.pre ops j q=true→q<ops.size){b:Nat}{k:Blk}(h:blkL m pl L b=some k):k.cells.all (At.inL m pl L)=true:=by
 unfold blkL at h
 cases hb:base m pl L b with
 | none=>rw [hb] at h;cases h
 | some k0 =>
  rw [hb] at h
  have h:=Option.some.inj h
  subst h
  show (foldB b L 0 m.nv pl k0).cells.all (At.inL m pl L)=true
  rcases foldB_last pl 0 m.nv k0 (b:=b) (L:=L) with hf|⟨j,e', h1,h2,h3,h4⟩
  ·rw [hf]
   unfold base at hb
   by_cases hbb:Nat.blt b m.bl.length=true
   ·rw [if_pos hbb] at hb
    have hok:=H.ok
    simp only [MS.okB,Bool.and_eq_true] at hok
    have h1:=List.all_eq_true.1 hok.2 k0 (nth_mem hb)
    exact List.all_eq_true.2 fun a ha=>okB_inL (nk:=0) (List.all_eq_true.1 h1 a ha)
   ·rw [if_neg hbb] at hb
    cases h0:alAt (b-m.bl.length) 0 pl with
    | none=>rw [h0] at hb;cases hb
    | some x =>
     obtain⟨j,k1⟩:=x
     rw [h0] at hb
     simp only at hb
     by_cases hl:L j=true
     ·rw [if_pos hl] at hb
      cases hb
      obtain⟨_,_,v,row,rd,h3,_⟩:=alAt_at _ _ 0 j k0 h0
      rw [Nat.sub_zero] at h3
      exact H.preL hcl (H.lt h3) hl (fun q=>hlt j q (H.lt h3)) (H.al h3)
     ·rw [if_neg hl] at hb;cases hb
  ·rw [Nat.zero_add] at h2
   obtain⟨cells,fact,hu,hk⟩:=updB_some (n:=m.nv+nV (pl.take j)) (k:=k0) h3
   rw [hu] at h4
   rw [← Option.some.inj h4]
   rcases hk with⟨v,rd,rfl,_⟩|⟨_,_,_,_,_,_,rfl,_⟩
   ·exact H.preL hcl (H.lt h1) h2 (fun q=>hlt j q (H.lt h1)) (H.stc h1)
   ·rfl
theorem PlanOk.inb(G:AgF m.df E0 m.fr a0):inB ops a0=true:=by
 unfold inB
 refine List.all_eq_true.2 fun j hj=>?_
 have hj:=List.mem_range.1 hj
 cases hd:dstOf ops j with
 | none=>rfl
 | some d=>simp only [decide_eq_true_eq];rw [G.sz];exact H.dst j d hj hd
theorem PlanOk.env(G:AgF m.df E0 m.fr a0):Rgn.Env ops a0 u (fill ops u ops.size a0).eval:=env_fill H.apart u a0 (H.inb G)
omit H in
theorem dst_of{t j:Nat}(h:dstIdx ops t=some j):j<ops.size∧dstOf ops j=some t:=by
 have h1:=List.find?_some h
 have h2:=List.mem_range.1 (List.mem_of_find?_eq_some h)
 exact⟨h2,by simpa using h1⟩
theorem PlanOk.eo(G:AgF m.df E0 m.fr a0)(I:Ist A S W ops m κ Φ pl E0 a0 L u w E)(C:Closed ops L i)(hi:i<ops.size){x:Operand}{v:SV}(h:eoD ops m (pl.take i) i x=some v):(fill ops u ops.size a0).eval x=v.d E:=by
 have hA:AgF m.df E m.fr a0:=G.same I.same (by have:=H.ok;simp only [MS.okB,Bool.and_eq_true] at this;exact this.1)
 cases x with
 | tmp t =>
  rw [(H.env G).tmp t]
  have h:(match dstIdx ops t with|some j=>if Rgn.pre ops i j then (nth (pl.take i) j).map PE.val else if Rgn.pre ops j i then eoF m.fr (.tmp t) else none|none=>eoF m.fr (.tmp t))=some v:=h
  unfold slot
  cases hd:dstIdx ops t with
  | none=>rw [hd] at h;exact eval_eo hA (.tmp t) v h
  | some j =>
   rw [hd] at h
   simp only at h ⊢
   obtain⟨hj,hdst⟩:=dst_of hd
   by_cases hp:Rgn.pre ops i j=true
   ·rw [if_pos hp] at h
    cases he:nth (pl.take i) j with
    | none=>rw [he] at h;cases h
    | some e =>
     rw [he] at h;cases h
     exact I.on j e (nth_take he) (C.pre j hj hp)
   ·rw [if_neg hp] at h
    by_cases hq:Rgn.pre ops j i=true
    ·rw [if_pos hq] at h
     have hLj:L j=false:=by
      cases hl:L j with
      | false=>rfl
      | true=>have:=C.cl j i hj hi hl hq;rw [C.out] at this;cases this
     rw [I.off j hLj]
     show (match dstOf ops j with|some d=>a0.tmps.getD d undef|none=>undef)=_
     rw [hdst]
     exact eval_eo hA (.tmp t) v h
    ·rw [if_neg hq] at h;cases h
 | const c=>exact eval_eo hA (.const c) v h
 | global g=>exact eval_eo hA (.global g) v h
 | func f=>exact eval_eo hA (.func f) v h
theorem PlanOk.want(G:AgF m.df E0 m.fr a0)(I:Ist A S W ops m κ Φ pl E0 a0 L u w E)(C:Closed ops L i)(ho:ops[i]? = some o){b:Bool}(h:wantD ops (pl.take i) i o=some b):Region.wanted o (yielded ops (fill ops u ops.size a0).tmps)=b:=by
 unfold wantD at h
 unfold Region.wanted
 split at h
 ·rename_i hg;cases h;rw [hg]
 ·rename_i q wt hg
  rw [hg]
  have key:∀ r,slotD ops (pl.take i) i q=some r→yielded ops (fill ops u ops.size a0).tmps q=r:=fun r hs=>by
   unfold slotD at hs
   split at hs
   ·rename_i hp
    simp only [Bool.and_eq_true] at hp
    obtain⟨hp,hd⟩:=hp
    split at hs
    ·rename_i e he
     split at hs
     ·rename_i v hv
      obtain⟨d,hd⟩:=Option.isSome_iff_exists.1 hd
      have hq:q<ops.size:=H.lt (nth_take he)
      have hon:=I.on q e (nth_take he) (C.pre q hq hp)
      rw [hv] at hon
      have hon:(u q).v=v:=hon
      have hdst:dstOf ops q=some d:=hd
      have hf:=fill_some H.apart u a0 (H.inb G) d q hdst hq ops.size hq (Nat.le_refl _)
      have hlt:d<(fill ops u ops.size a0).tmps.size:=by rw [fill_size,G.sz];exact H.dst q d hq hdst
      unfold yielded
      rw [hd]
      show (match (fill ops u ops.size a0).tmps[d]? with|some (.bool b)=>some b|_=>none)=r
      rw [Array.getD_eq_getD_getElem?,Array.getElem?_eq_getElem hlt] at hf
      rw [Array.getElem?_eq_getElem hlt]
      have hf:(fill ops u ops.size a0).tmps[d]=v:=hf.trans hon
      rw [hf]
      split at hs
      ·cases hs;rfl
      ·rename_i hnb
       cases hs
       split
       ·rename_i b hb;cases hb;exact absurd rfl (hnb b)
       ·rfl
     ·cases hs
    ·cases hs
   ·cases hs
  split at h
  ·rename_i c hs
   cases h
   show (yielded ops _ q == some wt)=_
   rw [key _ hs];simp
  ·rename_i hs
   cases h
   show (yielded ops _ q == some wt)=_
   rw [key _ hs];rfl
  ·cases h
theorem PlanOk.sees(G:AgF m.df E0 m.fr a0)(I:Ist A S W ops m κ Φ pl E0 a0 L u w E)(C:Closed ops L i){r:SV}{ef:Eff}{oo:Op}(he:nth pl i=some (.ev r ef (rdOf (eoD ops m (pl.take i) i) oo))):Sees E (fill ops u ops.size a0).eval w (sxD ops m (pl.take i) i oo):=by
 refine⟨fun x v h=>H.eo G I C (H.lt he) h,fun b k h=>?_,I.inv.ol,by rw [I.inv.ek];exact I.inv.ok⟩
 have h:(match rdOf (eoD ops m (pl.take i) i) oo with|some b' => if Nat.beq b b' then clear (blkL m (pl.take i) (Rgn.pre ops i) b) else none|none=>none)=some k:=h
 split at h
 ·rename_i b' hb
  split at h
  ·rename_i hbb
   have hbb:=Nat.eq_of_beq_eq_true hbb
   subst hbb
   obtain⟨h1,h2⟩:=clear_ex h
   obtain⟨s,h3,_⟩:=H.view he C.out C.pre C.cl (by rw [hb];exact Nat.beq_refl b) h1
   have h4:=I.inv.blk b _ h3 h2
   exact h4
  ·cases h
 ·cases h
theorem PlanOk.upd(I:Ist A S W ops m κ Φ pl E0 a0 L u w E)(C:Closed ops L i)(he:nth pl i=some e)(hs:Same m.bl.length m.nk m.nv E0 E')(ag:AgreeL m pl L E E')(hlt:∀ j q,j<ops.size→Rgn.pre ops j q=true→q<ops.size){A': Nat→Prop}(inv:InvD A' S W κ Φ E' (blkL m pl (ins i L)) (visL m pl (ins i L)) w'){v:Got}(hv:v.v=e.val.d E'):Ist A' S W ops m κ Φ pl E0 a0 (ins i L) (upd u i v) w' E' := by
 refine⟨hs,inv,fun j hj=>?_,fun j e' he' hj=>?_⟩
 ·by_cases h:j=i
  ·subst h;rw [ins_eq] at hj;cases hj
  ·rw [ins_ne h] at hj;rw [upd_other u v h];exact I.off j hj
 ·by_cases h:j=i
  ·subst h
   rw [he] at he';cases he'
   rw [upd_same];exact hv
  ·rw [ins_ne h] at hj
   rw [upd_other u v h,I.on j e' he' hj,SV.agree ag (H.valL C.cl he' hj (fun q=>hlt j q (H.lt he')))]
omit H in
theorem vis_ins{n:Nat}(h:m.nv≤n→∀ j,mkV (n-m.nv) 0 pl=some j→j≠i):visL m pl (ins i L) n=visL m pl L n:=by
 unfold visL
 by_cases hb:Nat.blt n m.nv=true
 ·rw [hb];rfl
 ·have hb' : m.nv≤n:=Nat.le_of_not_lt fun e=>hb (by rw [Nat.blt_eq];exact e)
  have hb:Nat.blt n m.nv=false:=by cases e:Nat.blt n m.nv with|false=>rfl|true=>exact absurd e hb
  rw [hb]
  simp only [Bool.false_and,Bool.false_or,Bool.not_false,Bool.true_and]
  split
  ·rename_i j hj;rw [ins_ne (h hb' j hj)]
  ·rfl
omit H in
theorem al_not(he:nth pl i=some e)(hn:∀ v ty c row rd,e≠.ev v (.al ty c row) rd){q j:Nat}{k:Blk}(h:alAt q 0 pl=some (j,k)):j≠i:=by
 rintro rfl
 obtain⟨_,_,v,row,rd,h3,_⟩:=alAt_at _ _ 0 j k h
 rw [Nat.sub_zero,he] at h3
 exact hn _ _ _ _ _ (Option.some.inj h3)
omit H in
theorem mk_not(he:nth pl i=some e)(hn:∀ v nk nv st rs,e≠.ca v nk nv none st rs){q j:Nat}(h:mkV q 0 pl=some j):j≠i:=by
 rintro rfl
 obtain⟨_,v,nk,nv,st,rs,h3,_⟩:=mkV_at _ _ 0 j h
 rw [Nat.sub_zero,he] at h3
 exact hn _ _ _ _ _ (Option.some.inj h3)
omit H in
theorem drop_at(he:nth pl i=some e):pl.drop i=e::pl.drop (i+1):=by
 rw [nth_eq] at he
 obtain⟨h1,h2⟩:=List.getElem?_eq_some_iff.1 he
 rw [List.drop_eq_getElem_cons h1,h2]
theorem PlanOk.alHere{v:SV}{ty:TypeId}{cells:List At}{row rd:Option Nat}(he:nth pl i=some (.ev v (.al ty cells row) rd)):alAt (nAl (pl.take i)) 0 pl=some (i,⟨ty,cells,true,none,softT ty row⟩):=by
 have h:=alAt_app (pl.take i) (pl.drop i) (nAl (pl.take i)) 0
 rw [List.take_append_drop,if_neg (by omega),Nat.sub_self,drop_at he] at h
 rw [h]
 show some (0+(pl.take i).length,_)=_
 rw [H.tlen he,Nat.zero_add]
theorem PlanOk.mkHere{v:SV}{nk nv q:Nat}{st rs:List Nat}(he:nth pl i=some (.ca v nk nv none st rs))(h1:nV (pl.take i)≤q)(h2:q<nV (pl.take i)+nv):mkV q 0 pl=some i:=by
 have h:=mkV_app (pl.take i) (pl.drop i) q 0
 rw [List.take_append_drop,if_neg (by omega),drop_at he] at h
 rw [h]
 show (if Nat.blt (q-nV (pl.take i)) nv then (if (none:Option Nat).isSome then none else some (0+(pl.take i).length)) else _)=_
 rw [if_pos (by rw [Nat.blt_eq];omega),H.tlen he,Nat.zero_add];rfl
def setS(st:Nat→Bool)(b:Nat):Option Blk→Option Blk
 | some k=>some ⟨k.ty,k.cells,k.own,k.fact,k.soft && !st b⟩
 | none=>none
omit H in
theorem settled_ins(he:nth pl i=some e)(b:Nat):settled b (ins i L) 0 pl=(settled b L 0 pl||sett b e):=by
 rw [Bool.eq_iff_iff,Bool.or_eq_true,settled_iff,settled_iff]
 constructor
 ·rintro⟨j,e', h1,h2,h3⟩
  rw [Nat.zero_add] at h2
  by_cases hji:j=i
  ·subst hji;rw [he] at h1;cases h1;exact .inr h3
  ·rw [ins_ne hji] at h2;exact .inl ⟨j,e', h1,by rw [Nat.zero_add];exact h2,h3⟩
 ·rintro (⟨j,e', h1,h2,h3⟩|h)
  ·rw [Nat.zero_add] at h2
   refine⟨j,e', h1,?_,h3⟩
   rw [Nat.zero_add]
   unfold ins;rw [h2,Bool.or_true]
  ·exact⟨i,e,he,by rw [Nat.zero_add];exact ins_eq,h⟩
omit H in
theorem base_ins{b:Nat}(h1:m.bl.length≤b→∀ j k,alAt (b-m.bl.length) 0 pl=some (j,k)→j≠i):base m pl (ins i L) b=base m pl L b:=by
 unfold base
 by_cases hb:Nat.blt b m.bl.length=true
 ·rw [if_pos hb,if_pos hb]
 ·rw [if_neg hb,if_neg hb]
  have hb:m.bl.length≤b:=Nat.le_of_not_lt fun e=>hb (by rw [Nat.blt_eq];exact e)
  cases h0:alAt (b-m.bl.length) 0 pl with
  | none=>rfl
  | some x =>
   obtain⟨j,k⟩:=x
   simp only
   rw [ins_ne (h1 hb j k h0)]
omit H in
theorem blk_ins{b:Nat}(he:nth pl i=some e)(h1:m.bl.length≤b→∀ j k,alAt (b-m.bl.length) 0 pl=some (j,k)→j≠i)(hw:wrt b e=false):blkL m pl (ins i L) b=setS (fun b=>sett b e) b (blkL m pl L b):=by
 unfold blkL
 rw [base_ins h1]
 cases hb:base m pl L b with
 | none=>rfl
 | some k =>
  simp only
  have hf:foldB b (ins i L) 0 m.nv pl k=foldB b L 0 m.nv pl k:=foldB_congr pl 0 m.nv k fun j e' hj hw' => by
   rw [Nat.zero_add]
   by_cases hji:j=i
   ·subst hji;rw [he] at hj;cases hj;rw [hw] at hw';cases hw'
   ·exact ins_ne hji
  rw [hf,settled_ins he]
  simp only [setS,Bool.not_or,Bool.and_assoc]
theorem PlanOk.blkW{b:Nat}{k:Blk}(C:Closed ops L i)(he:nth pl i=some e)(hw:wrt b e=true)(hst:sett b e=false)(hk:blkL m pl L b=some k):∃ cells fact,blkL m pl (ins i L) b=some ⟨k.ty,cells,true,fact,k.soft⟩ ∧
  ((∃ v rd,e=.ev v (.st b cells) rd∧fact=none)∨∃ r nk nv st rs,e=.ca r nk nv (some b) st rs∧cells=[]∧fact=some (m.nv+nV (pl.take i))):=by
 have hno:∀ v ty c row rd,e≠.ev v (.al ty c row) rd:=fun v ty c row rd h=>by subst h;cases hw
 have hi:=H.lt he
 unfold blkL at hk ⊢
 rw [base_ins (fun _ j k h=>al_not he hno h)]
 cases hb:base m pl L b with
 | none=>rw [hb] at hk;cases hk
 | some k0 =>
  rw [hb] at hk
  simp only at hk ⊢
  have hk:=Option.some.inj hk
  obtain⟨t1,t2,_⟩:=foldB_ty (b:=b) (L:=L) pl 0 m.nv k0
  have hf:∃ k1:Blk,k1.ty=k0.ty∧k1.soft=k0.soft∧foldB b (ins i L) 0 m.nv pl k0=stepB b (m.nv+nV (pl.take i)) k1 e:=by
   refine⟨foldB b (ins i L) 0 m.nv (pl.take i) k0,(foldB_ty _ _ _ _).1,(foldB_ty _ _ _ _).2.1,?_⟩
   conv=>lhs;rw [take_add pl i,drop_at he]
   rw [foldB_app]
   show foldB b (ins i L) _ _ (pl.drop (i+1)) (if ins i L (0+(pl.take i).length) then _ else _)=_
   rw [H.tlen he,Nat.zero_add,if_pos ins_eq]
   refine foldB_id _ _ _ _ fun j e' hj hw' => ?_
   have hj' : nth pl (i+1+j)=some e' := nth_drop hj
   have hjs:=H.lt hj'
   rw [ins_ne (by omega)]
   rcases (H.wr hj' hw').2 i e he (by omega) (.inr hw) with hp|hp
   ·cases hl:L (i+1+j) with
    | false=>rfl
    | true=>have:=C.cl _ i hjs hi hl hp;rw [C.out] at this;cases this
   ·exact absurd (pre_lt H.pre i (i+1+j) hi hjs hp) (by omega)
  obtain⟨k1,e1,e2,e3⟩:=hf
  obtain⟨cells,fact,hu,hcase⟩:=updB_some (n:=m.nv+nV (pl.take i)) (k:=k1) hw
  refine⟨cells,fact,?_,hcase⟩
  rw [e3]
  unfold stepB
  rw [hu,settled_ins he,hst,Bool.or_false]
  simp only [Option.getD_some]
  rw [← hk,e1,e2]
  simp only [t1,t2]
theorem PlanOk.invSame(I:InvD A S W κ Φ E (blkL m pl L) (visL m pl L) w)(he:nth pl i=some e)(h1:∀ v ty c row rd,e≠.ev v (.al ty c row) rd)(h2:∀ b,wrt b e=false)(h2': ∀ b,sett b e=false)(h3:∀ n,visL m pl (ins i L) n=visL m pl L n):InvD A S W κ Φ E (blkL m pl (ins i L)) (visL m pl (ins i L)) w:=by
 have _h:=H
 have hb:blkL m pl (ins i L)=blkL m pl L:=funext fun b=>by
  rw [blk_ins he (fun _ j k h=>al_not he h1 h) (h2 b)]
  cases blkL m pl L b with
  | none=>rfl
  | some k=>simp only [setS,h2' b,Bool.not_false,Bool.and_true]
 have hv:visL m pl (ins i L)=visL m pl L:=funext h3
 rw [hb,hv];exact I
theorem PlanOk.invAl(I:InvD A S W κ Φ E (blkL m pl L) (visL m pl L) w)(C:Closed ops L i)(hlt:∀ j q,j<ops.size→Rgn.pre ops j q=true→q<ops.size){v:SV}{ty:TypeId}{cells:List At}{row rd:Option Nat}(he:nth pl i=some (.ev v (.al ty cells row) rd))(hT:headT cells=false):let E' : Env:={ E with β:=fun b=>if b=m.bl.length+nAl (pl.take i) then w.heap.size else E.β b }
  AgreeL m pl L E E'∧InvD (fun k=>if softT ty row then A k∧k≠w.heap.size else A k∨k=w.heap.size) S W κ Φ E' (blkL m pl (ins i L)) (visL m pl (ins i L)) (w.alloc (.cells ⟨cells.map (At.d E)⟩ ty (0,0))):=by
 intro E'
 have hhere:=H.alHere he
 have hn:E'.β (m.bl.length+nAl (pl.take i))=w.heap.size:=if_pos rfl
 have ag:AgreeL m pl L E E' := ⟨fun b hb=>(by
  refine if_neg fun e=>?_
  subst e
  rcases hb with hb|⟨j,k,h1,h2⟩
  ·omega
  ·rw [Nat.add_sub_cancel_left,hhere] at h1
   cases h1
   rw [C.out] at h2;cases h2),rfl,fun _ _=>rfl⟩
 have hcells:cells.all (At.inL m pl L)=true:=At.monoL (fun q hq=>C.pre q (hlt i q (H.lt he) hq) hq) (H.al he)
 have hother:∀ b,b≠m.bl.length+nAl (pl.take i)→blkL m pl (ins i L) b=blkL m pl L b:=fun b hb=>by
  rw [blk_ins he (fun hle j k h=>by
   rintro rfl
   obtain⟨_,h2,_⟩:=alAt_at _ _ 0 j k h
   rw [Nat.sub_zero] at h2
   omega) rfl]
  cases blkL m pl L b with
  | none=>rfl
  | some k=>simp only [setS,sett,Bool.not_false,Bool.and_true]
 have hnew:∀ k,blkL m pl (ins i L) (m.bl.length+nAl (pl.take i))=some k→k=⟨ty,cells,true,none,softT ty row⟩:=fun k h=>by
  unfold blkL base at h
  rw [if_neg (by rw [Nat.blt_eq];omega),Nat.add_sub_cancel_left,hhere] at h
  simp only [ins_eq,if_true] at h
  have hdep:∀ j e', nth pl j=some e'→j≠i→alB m pl (Rgn.pre ops j) (m.bl.length+nAl (pl.take i))=true→L j=false:=fun j e' hj hji ha=>by
   rcases alB_b ha with h4|⟨j', k', h4,h5⟩
   ·omega
   ·rw [Nat.add_sub_cancel_left,hhere] at h4
    cases h4
    cases hl:L j with
    | false=>rfl
    | true=>have:=C.cl j i (H.lt hj) (H.lt he) hl h5;rw [C.out] at this;cases this
  have hfold:foldB (m.bl.length+nAl (pl.take i)) (ins i L) 0 m.nv pl ⟨ty,cells,true,none,softT ty row⟩=⟨ty,cells,true,none,softT ty row⟩:=foldB_id _ _ _ _ fun j e' hj hw=>by
   rw [Nat.zero_add]
   by_cases hji:j=i
   ·subst hji;rw [he] at hj;cases hj;cases hw
   ·rw [ins_ne hji];exact hdep j e' hj hji (H.wr hj hw).1
  have hset:settled (m.bl.length+nAl (pl.take i)) (ins i L) 0 pl=false:=by
   cases hs:settled (m.bl.length+nAl (pl.take i)) (ins i L) 0 pl with
   | false=>rfl
   | true =>
    exfalso
    obtain⟨j,e', h1,h2,h3⟩:=(settled_iff _ 0).1 hs
    rw [Nat.zero_add] at h2
    by_cases hji:j=i
    ·subst hji;rw [he] at h1;cases h1;cases h3
    ·rw [ins_ne hji] at h2
     have hal:alB m pl (Rgn.pre ops j) (m.bl.length+nAl (pl.take i))=true:=by
      cases e' with
      | no=>cases h3
      | ev _ _ _=>cases h3
      | ca r nk nv fl st rs =>
       have:=H.ent j _ h1
       simp only [entryB,Bool.and_eq_true] at this
       have h5:=List.all_eq_true.1 this.2.2 _ (hasN_mem h3)
       simp only [Bool.and_eq_true] at h5
       exact h5.1.1.1
     rw [hdep j e' h1 hji hal] at h2;cases h2
  rw [hfold,hset] at h
  simp only [Bool.not_false,Bool.and_true,Option.some.injEq] at h
  exact h.symm
 have hvis:visL m pl (ins i L)=visL m pl L:=funext fun n=>vis_ins fun _ j h=>mk_not he (fun v nk nv st rs e=>by cases e) h
 have hβ:∀ b k,blkL m pl L b=some k→b≠m.bl.length+nAl (pl.take i)→E'.β b=E.β b:=fun b k h hne=>if_neg hne
 have hst:∀ k,k<w.heap.size→(w.alloc (.cells ⟨cells.map (At.d E)⟩ ty (0,0))).heap[k]? = w.heap[k]?:=fun k hk=>Below.heap_alloc _ _ _ hk
 have hA:∀ k,k<w.heap.size→((fun k=>if softT ty row then A k∧k≠w.heap.size else A k∨k=w.heap.size) k↔A k):=fun k hk=>by
  show (if softT ty row then _ else _)↔_
  split
  ·exact⟨fun h=>h.1,fun h=>⟨h,Nat.ne_of_lt hk⟩⟩
  ·exact⟨fun h=>h.resolve_right (Nat.ne_of_lt hk),.inl⟩
 have hcell:(w.alloc (.cells ⟨cells.map (At.d E)⟩ ty (0,0))).heap[w.heap.size]? = some (.cells ⟨cells.map (At.d E)⟩ ty (0,0)):=by simp only [World.alloc];simp
 refine⟨ag,I.ek,?_,?_,?_,?_,?_,?_,I.ol,I.ok,?_,?_,?_,?_,?_⟩
 ·exact I.bel.trans ⟨rfl,rfl,rfl,by simp,fun k hk=>Below.heap_alloc _ _ _ (Nat.lt_of_lt_of_le hk I.bel.size)⟩
 ·intro b k h
  by_cases hb:b=m.bl.length+nAl (pl.take i)
  ·subst hb;rw [hn];simp
  ·rw [hother b hb] at h
   rw [hβ b k h hb];exact Nat.lt_of_lt_of_le (I.lt b k h) (by simp)
 ·intro b k h hf
  by_cases hb:b=m.bl.length+nAl (pl.take i)
  ·subst hb
   have:=hnew k h
   subst this
   rw [hn,hcell]
   exact (HC.mk rfl hT).env (At.agreeL ag hcells)
  ·rw [hother b hb] at h
   rw [hβ b k h hb,hst _ (I.lt b k h)]
   exact (I.blk b k h hf).env (At.agreeL ag (H.blkIn C.cl hlt h))
 ·intro b k h ho
  by_cases hb:b=m.bl.length+nAl (pl.take i)
  ·subst hb;rw [hn];exact I.bel.size
  ·rw [hother b hb] at h;rw [hβ b k h hb];exact I.own b k h ho
 ·intro b k h ho
  by_cases hb:b=m.bl.length+nAl (pl.take i)
  ·subst hb;have:=hnew k h;subst this;cases ho
  ·rw [hother b hb] at h;rw [hβ b k h hb];exact I.old b k h ho
 ·intro b c k l h g h1 h2 hne
  by_cases hb:b=m.bl.length+nAl (pl.take i)
  ·subst hb
   have hc:c≠m.bl.length+nAl (pl.take i):=fun e=>hne e.symm
   rw [hother c hc] at g
   rw [hn,hβ c l g hc];exact (Nat.ne_of_lt (I.lt c l g)).symm
  ·rw [hother b hb] at h
   by_cases hc:c=m.bl.length+nAl (pl.take i)
   ·subst hc
    rw [hn,hβ b k h hb];exact Nat.ne_of_lt (I.lt b k h)
   ·rw [hother c hc] at g
    rw [hβ b k h hb,hβ c l g hc];exact I.inj b c k l h g h1 h2 hne
 ·intro n φ h hv
  rw [hvis] at hv
  exact φ.grow (GrowS.alloc _ _ _) (φ.mono (fun k hk ha=>(hA k hk).2 ha) (I.fac n φ h hv))
 ·intro k hk
  have hk:if softT ty row then A k∧k≠w.heap.size else A k∨k=w.heap.size:=hk
  split at hk
  ·exact I.up k hk.1
  ·rcases hk with hk|hk
   ·exact I.up k hk
   ·subst hk;exact .inr I.bel.size
 ·intro b k h ho hs
  by_cases hb:b=m.bl.length+nAl (pl.take i)
  ·subst hb
   have:=hnew k h
   subst this
   rw [hn]
   show if softT ty row then _ else _
   rw [if_neg (by rw [show softT ty row=false from hs];decide)]
   exact .inr rfl
  ·rw [hother b hb] at h
   rw [hβ b k h hb];exact (hA _ (I.lt b k h)).2 (I.se b k h ho hs)
 ·intro b k h hs
  by_cases hb:b=m.bl.length+nAl (pl.take i)
  ·subst hb
   have:=hnew k h
   subst this
   rw [hn]
   refine⟨rfl,fun e=>?_,⟨_,ty,hcell,?_⟩⟩
   ·have e:if softT ty row then A w.heap.size∧w.heap.size≠w.heap.size else A w.heap.size∨w.heap.size=w.heap.size:=e
    rw [if_pos hs] at e
    exact e.2 rfl
   ·have hs:(row.isNone&&NumT ty)=true:=hs
    exact (Bool.and_eq_true_iff.1 hs).2
  ·rw [hother b hb] at h
   obtain⟨h1,h2,h3⟩:=I.so b k h hs
   rw [hβ b k h hb]
   exact⟨h1,fun e=>h2 ((hA _ (I.lt b k h)).1 e),Soft.keep h3 (hst _ (I.lt b k h))⟩
 ·intro b k n h hf
  by_cases hb:b=m.bl.length+nAl (pl.take i)
  ·subst hb;have:=hnew k h;subst this;cases hf
  ·rw [hother b hb] at h
   obtain⟨h1,h2,φ,h3,h4⟩:=I.sof b k n h hf
   rw [hβ b k h hb]
   exact⟨h1,Soft.keep h2 (hst _ (I.lt b k h)),φ,h3,φ.grow (GrowS.alloc _ _ _) h4⟩
theorem PlanOk.invSt(I:InvD A S W κ Φ E (blkL m pl L) (visL m pl L) w)(C:Closed ops L i){v:SV}{b:Nat}{cells:List At}{rd:Option Nat}(he:nth pl i=some (.ev v (.st b cells) rd)){k:Blk}(hk:blkL m pl L b=some k)(hfn:k.fact=none)(hown:k.own=true)(hl:Rgn.Loc k.ty=true)(hT:headT k.cells=false)(hT': headT cells=false):InvD A S W κ Φ E (blkL m pl (ins i L)) (visL m pl (ins i L)) (w.setRow (E.β b) ⟨cells.map (At.d E)⟩):=by
 have hB:=(I.blk b k hk hfn).ex hT
 have hge:=I.own b k hk hown
 have hon:=setRow_only w (E.β b) ⟨cells.map (At.d E)⟩
 have hsz:(w.setRow (E.β b) ⟨cells.map (At.d E)⟩).heap.size=w.heap.size:=by simp [World.setRow]
 have hg:∀ T,GrowS T w (w.setRow (E.β b) ⟨cells.map (At.d E)⟩):=fun T=>⟨rfl,rfl,rfl,by rw [hsz];exact Nat.le_refl _,fun j hj=>by
  by_cases e:j=E.β b
  ·subst e;exact .inr (.inl ⟨_,_,_,hB,hl⟩)
  ·exact .inl (hon.block j hj e)⟩
 have hne:∀ c l,blkL m pl L c=some l→c≠b→E.β c≠E.β b:=fun c l h hc=>by
  cases e:l.own with
  | true=>exact I.inj c b l k h hk e hown hc
  | false=>exact Nat.ne_of_lt (Nat.lt_of_lt_of_le (I.old c l h e) hge)
 have hother:∀ c,c≠b→blkL m pl (ins i L) c=blkL m pl L c:=fun c hc=>by
  rw [blk_ins he (fun _ j k h=>al_not he (fun _ _ _ _ _ e=>by cases e) h) (by
   show Nat.beq b c=false
   cases e:Nat.beq b c with
   | false=>rfl
   | true=>exact absurd (Nat.eq_of_beq_eq_true e).symm hc)]
  cases blkL m pl L c with
  | none=>rfl
  | some k=>simp only [setS,sett,Bool.not_false,Bool.and_true]
 have hnew:blkL m pl (ins i L) b=some ⟨k.ty,cells,true,none,k.soft⟩:=by
  obtain⟨c2,f2,h1,h2⟩:=H.blkW C he (Nat.beq_refl b) rfl hk
  rcases h2 with⟨v', rd', e1,e2⟩|⟨_,_,_,_,_,e1,_⟩
  ·cases e1;rw [h1,e2]
  ·cases e1
 have hvis:visL m pl (ins i L)=visL m pl L:=funext fun n=>vis_ins fun _ j h=>mk_not he (fun v nk nv st rs e=>by cases e) h
 have nx:∀ {c l},blkL m pl (ins i L) c=some l→(c=b∧l=⟨k.ty,cells,true,none,k.soft⟩)∨(c≠b∧blkL m pl L c=some l):=fun {c l} h=>by
  by_cases hc:c=b
  ·subst hc;rw [hnew] at h;exact .inl ⟨rfl,(Option.some.inj h).symm⟩
  ·rw [hother c hc] at h;exact .inr ⟨hc,h⟩
 refine⟨I.ek,?_,?_,?_,?_,?_,?_,I.ol,I.ok,?_,I.up,?_,?_,?_⟩
 ·exact I.bel.trans ⟨rfl,rfl,rfl,by simp [World.setRow],fun j hj=>hon.block j (Nat.lt_of_lt_of_le hj I.bel.size) (Nat.ne_of_lt (Nat.lt_of_lt_of_le hj hge))⟩
 ·intro c l h
  rw [hsz]
  rcases nx h with⟨rfl,rfl⟩|⟨_,h⟩
  ·exact I.lt _ k hk
  ·exact I.lt c l h
 ·intro c l h hf
  rcases nx h with⟨rfl,rfl⟩|⟨hc,h⟩
  ·exact HC.mk (setRow_at hB) hT'
  ·rw [hon.block _ (I.lt c l h) (hne c l h hc)];exact I.blk c l h hf
 ·intro c l h ho
  rcases nx h with⟨rfl,rfl⟩|⟨hc,h⟩
  ·exact hge
  ·exact I.own c l h ho
 ·intro c l h ho
  rcases nx h with⟨rfl,rfl⟩|⟨hc,h⟩
  ·cases ho
  ·exact I.old c l h ho
 ·intro c d l n h g h1 h2 hcd
  rcases nx h with⟨rfl,rfl⟩|⟨hc,h⟩
  ·rcases nx g with⟨rfl,rfl⟩|⟨_,g⟩
   ·exact absurd rfl hcd
   ·exact I.inj c d k n hk g hown h2 hcd
  ·rcases nx g with⟨rfl,rfl⟩|⟨_,g⟩
   ·exact I.inj c d l k h hk h1 hown hcd
   ·exact I.inj c d l n h g h1 h2 hcd
 ·intro n φ h hv
  rw [hvis] at hv
  exact φ.grow (hg A) (I.fac n φ h hv)
 ·intro c l h ho hs
  rcases nx h with⟨rfl,rfl⟩|⟨_,h⟩
  ·exact I.se _ k hk hown hs
  ·exact I.se c l h ho hs
 ·intro c l h hs
  rcases nx h with⟨rfl,rfl⟩|⟨hc,h⟩
  ·have h1:=(I.so _ k hk hs).2.2
   rw [Soft.notLoc h1 hB] at hl;cases hl
  ·obtain⟨h1,h2,h3⟩:=I.so c l h hs
   exact⟨h1,h2,Soft.keep h3 (hon.block _ (I.lt c l h) (hne c l h hc))⟩
 ·intro c l n h hf
  rcases nx h with⟨rfl,rfl⟩|⟨hc,h⟩
  ·cases hf
  ·obtain⟨h1,h2,φ,h3,h4⟩:=I.sof c l n h hf
   exact⟨h1,Soft.keep h2 (hon.block _ (I.lt c l h) (hne c l h hc)),φ,h3,φ.grow (hg _) h4⟩
def andSt(A:Nat→Prop)(E:Env)(st:Nat→Bool):Nat→Prop:=fun k=>A k∨∃ b,st b=true∧k=E.β b
omit H in
theorem InvD.settle{bl:Nat→Option Blk}{vis st:Nat→Bool}(I:InvD A S W κ Φ E bl vis w)(h:∀ b,st b=true→∃ k,bl b=some k∧k.own=true):InvD (andSt A E st) S W κ Φ E (fun b=>setS st b (bl b)) vis w:=by
 have nx:∀ {c l},setS st c (bl c)=some l→∃ k,bl c=some k∧l=⟨k.ty,k.cells,k.own,k.fact,k.soft && !st c⟩:=fun {c l} g=>by
  cases hb:bl c with
  | none=>rw [hb] at g;cases g
  | some k=>rw [hb] at g;exact⟨k,rfl,(Option.some.inj g).symm⟩
 refine⟨I.ek,I.bel,fun b l g=>?_,fun b l g hf=>?_,fun b l g ho=>?_,fun b l g ho=>?_,fun b c l n g1 g2 h1 h2 hne=>?_,I.ol,I.ok,fun n φ g hv=>φ.mono (fun _ _ hk=>.inl hk) (I.fac n φ g hv),fun k hk=>?_,fun b l g ho hs=>?_,fun b l g hs=>?_,fun b l n g hf=>?_⟩
 ·obtain⟨k,hk,rfl⟩:=nx g;exact I.lt b k hk
 ·obtain⟨k,hk,rfl⟩:=nx g;exact I.blk b k hk hf
 ·obtain⟨k,hk,rfl⟩:=nx g;exact I.own b k hk ho
 ·obtain⟨k,hk,rfl⟩:=nx g;exact I.old b k hk ho
 ·obtain⟨k,hk,rfl⟩:=nx g1
  obtain⟨k', hk', rfl⟩:=nx g2
  exact I.inj b c k k' hk hk' h1 h2 hne
 ·rcases hk with hk|⟨b,hb,rfl⟩
  ·exact I.up k hk
  ·obtain⟨k,hk,ho⟩:=h b hb
   exact .inr (I.own b k hk ho)
 ·obtain⟨k,hk,rfl⟩:=nx g
  cases hs1:k.soft with
  | false=>exact .inl (I.se b k hk ho hs1)
  | true =>
   have hs:(k.soft && !st b)=false:=hs
   rw [hs1,Bool.true_and,Bool.not_eq_false'] at hs
   exact .inr ⟨b,hs,rfl⟩
 ·obtain⟨k,hk,rfl⟩:=nx g
  have hs:(k.soft && !st b)=true:=hs
  rw [Bool.and_eq_true,Bool.not_eq_true'] at hs
  obtain⟨h1,h2,h3⟩:=I.so b k hk hs.1
  refine⟨h1,fun e=>?_,h3⟩
  rcases e with e|⟨c,hc,e⟩
  ·exact h2 e
  ·obtain⟨k', hk', ho⟩:=h c hc
   have hbc:b≠c:=fun e=>by subst e;rw [hs.2] at hc;cases hc
   exact I.inj b c k k' hk hk' h1 ho hbc e
 ·obtain⟨k,hk,rfl⟩:=nx g;exact I.sof b k n hk hf
end
section
variable {P:Program} {A S:Nat→Prop} {W:World} {ops:Array Oper} {m:MS} {κ0 κ:List Value} {Φ0 Φ:List VP} {pl:List PE} {L:Nat→Bool} {E E' E0:Env} {a0:Act} {u:Nat→Got} {w w' : World} {i:Nat} {e:PE} {o:Oper} {Q:Exit→Act→World→Prop}
theorem nextD_at{H:PlanOk ops m pl}(he:nth pl i=some e)(ho:ops[i]? = some o)(h:nextD P ops m (pl.take i)=some e):(wantD ops (pl.take i) i o=some false∧e=.no)∨∃ r ef,wantD ops (pl.take i) i o=some true∧evOp P (sxD ops m (pl.take i) i o.op) o.op=some (r,ef)∧e=.ev r ef (rdOf (eoD ops m (pl.take i) i) o.op):=by
 have hlen:=H.tlen he
 unfold nextD at h
 rw [hlen,ho] at h
 simp only at h
 split at h
 ·rename_i hw
  split at h
  ·rename_i r ef hev;cases h;exact .inr ⟨r,ef,hw,hev,rfl⟩
  ·cases h
 ·rename_i hw;cases h;exact .inl ⟨hw,rfl⟩
 ·cases h
theorem evLx_map(eo:Operand→Option SV)(ρ:Operand→Value)(hE:∀ x v,eo x=some v→ρ x=v.d E):∀ (xs:List Operand) (l:List SV),callD.evLx eo xs=some l→xs.map ρ=l.map (SV.d E)
 | [],l,h=>by cases h;rfl
 | x::xs,l,h=>by
  simp only [callD.evLx] at h
  split at h
  ·rename_i v r hv hr
   cases h
   simp only [List.map_cons,hE x v hv,evLx_map eo ρ hE xs r hr]
  ·cases h
theorem call_at{H:PlanOk ops m pl}(G:AgF m.df E0 m.fr a0)(I:Ist A S W ops m κ Φ pl E0 a0 L u w E)(C:Closed ops L i)(he:nth pl i=some e)(ho:ops[i]? = some o){f:FuncId}{args:List Value}(h:argsD P ops m (pl.take i) E=some (f,args)):Region.wanted o (yielded ops (fill ops u ops.size a0).tmps)=true∧(execOp (fill ops u ops.size a0).eval o).run P w=.ok (.enter f ⟨args⟩) w:=by
 have hlen:=H.tlen he
 unfold argsD at h
 cases hq:callD P ops m (pl.take i) with
 | none=>rw [hq] at h;cases h
 | some q =>
  obtain⟨f', l⟩:=q
  rw [hq] at h
  simp only [Option.map_some,Option.some.injEq,Prod.mk.injEq] at h
  obtain⟨rfl,h2⟩:=h
  unfold callD at hq
  rw [hlen,ho] at hq
  simp only at hq
  split at hq
  ·rename_i hw
   refine⟨H.want G I C ho hw,?_⟩
   split at hq
   ·rename_i c hop
    split at hq
    ·rename_i x hcal
     split at hq
     ·rename_i g fst caps hce
      split at hq
      ·rename_i fn hfn
       split at hq
       ·cases hq
       rename_i hname
       simp only [Bool.or_eq_true,not_or,Bool.not_eq_true] at hname
       cases hl:callD.evLx (eoD ops m (pl.take i) i) c.args.toList with
       | none=>rw [hl] at hq;cases hq
       | some l' =>
        rw [hl] at hq
        simp only [Option.map_some,Option.some.injEq,Prod.mk.injEq] at hq
        obtain⟨rfl,rfl⟩:=hq
        obtain⟨cal,ags,ats⟩:=c
        simp only at hcal hl
        subst hcal
        obtain⟨v0,hv0,hv1⟩:=callee_is (E:=E) hce
        have h5:=ex_call2 (P:=P) (w:=w) (fst:=fst.map (SV.d E)) (args:=l'.map (SV.d E)) (caps:=caps.map (SV.d E)) hop ((H.eo G I C (H.lt he) hv0).trans hv1) hfn hname.1 hname.2 (by
         apply Array.toList_inj.1
         rw [Array.toList_map,evLx_map _ _ (fun x v hv=>H.eo G I C (H.lt he) hv) _ _ hl])
        rw [h5,← List.map_append,← List.map_append,h2]
      ·cases hq
     ·cases hq
    ·cases hq
   ·cases hq
  ·cases hq
theorem InvD.call{bl:Nat→Option Blk}{vis vis': Nat→Bool}(I:InvD A S W κ Φ E bl vis w)(hb:Below w.heap.size w w')(hk:E'.κ=κ)(hβ:E'.β=E.β)(hc:∀ b k,bl b=some k→k.cells.map (At.d E')=k.cells.map (At.d E))(hl:∀ n,(E'.ℓ n).oneCell'=true)(hf:∀ n φ,nth Φ n=some φ→vis' n=true→φ.p (andNew A w) (E'.ℓ n) w'):InvD (andNew A w) S W κ Φ E' bl vis' w' := by
 refine⟨hk,I.bel.trans ⟨hb.os,hb.tape,hb.output,hb.size,fun k hk=>hb.block k (Nat.lt_of_lt_of_le hk I.bel.size)⟩,fun b k h=>?_,fun b k h hfn=>?_,fun b k h ho=>?_,fun b k h ho=>?_,fun b c k l h g h1 h2 hne=>?_,hl,I.ok,hf,fun k hk=>?_,fun b k h ho hs=>?_,fun b k h hs=>?_,fun b k n h hfn=>?_⟩
 ·rw [hβ];exact Nat.lt_of_lt_of_le (I.lt b k h) hb.size
 ·rw [hβ,hb.block _ (I.lt b k h)];exact (I.blk b k h hfn).env (hc b k h)
 ·rw [hβ];exact I.own b k h ho
 ·rw [hβ];exact I.old b k h ho
 ·rw [hβ];exact I.inj b c k l h g h1 h2 hne
 ·rcases hk with hk|hk
  ·exact I.up k hk
  ·exact .inr (Nat.le_trans I.bel.size hk)
 ·rw [hβ];exact .inl (I.se b k h ho hs)
 ·obtain⟨g1,g2,g3⟩:=I.so b k h hs
  rw [hβ]
  exact⟨g1,fun e=>e.elim g2 (fun e=>Nat.lt_irrefl _ (Nat.lt_of_lt_of_le (I.lt b k h) e)),Soft.keep g3 (hb.block _ (I.lt b k h))⟩
 ·obtain⟨g1,g2,φ,g3,g4⟩:=I.sof b k n h hfn
  rw [hβ]
  exact⟨g1,Soft.keep g2 (hb.block _ (I.lt b k h)),φ,g3,φ.grow (GrowS.below hb) g4⟩
theorem InvD.fill{bl:Nat→Option Blk}{vis:Nat→Bool}{φ:VP}{b n:Nat}{k:Blk}(I:InvD A S W κ Φ E bl vis w)(hk:bl b=some k)(hs:k.soft=true)(ho:Only (E.β b) w w')(hp:φ.p (·=E.β b) (.pointer (some ⟨E.β b,0,none⟩)) w')(hS:Soft w' (E.β b))(hΦ:nth Φ n=some φ):InvD A S W κ Φ E (fun c=>if c=b then some ⟨k.ty,[],true,some n,true⟩ else bl c) vis w' := by
 obtain⟨h1,h2,h3⟩:=I.so b k hk hs
 have hge:=I.own b k hk h1
 have hne:∀ c l,bl c=some l→c≠b→E.β c≠E.β b:=fun c l h hc=>by
  cases e:l.own with
  | true=>exact I.inj c b l k h hk e h1 hc
  | false=>exact Nat.ne_of_lt (Nat.lt_of_lt_of_le (I.old c l h e) hge)
 have nx:∀ {c l},(if c=b then some ⟨k.ty,[],true,some n,true⟩ else bl c)=some l→(c=b∧l=⟨k.ty,[],true,some n,true⟩)∨(c≠b∧bl c=some l):=fun {c l} h=>by
  by_cases hc:c=b
  ·rw [if_pos hc] at h;exact .inl ⟨hc,(Option.some.inj h).symm⟩
  ·rw [if_neg hc] at h;exact .inr ⟨hc,h⟩
 refine⟨I.ek,I.bel.trans ⟨ho.os,ho.tape,ho.output,ho.size,fun j hj=>ho.block j (Nat.lt_of_lt_of_le hj I.bel.size) (Nat.ne_of_lt (Nat.lt_of_lt_of_le hj hge))⟩,fun c l h=>?_,fun c l h hf=>?_,fun c l h hw=>?_,fun c l h hw=>?_,fun c d l l2 h g ho1 ho2 hcd=>?_,I.ol,I.ok,fun q ψ h hv=>ψ.grow (only_growS ho h3 h2) (I.fac q ψ h hv),I.up,fun c l h hw hsf=>?_,fun c l h hsf=>?_,fun c l q h hf=>?_⟩
 ·rcases nx h with⟨rfl,rfl⟩|⟨_,h⟩
  ·exact Nat.lt_of_lt_of_le (I.lt _ k hk) ho.size
  ·exact Nat.lt_of_lt_of_le (I.lt c l h) ho.size
 ·rcases nx h with⟨rfl,rfl⟩|⟨hc,h⟩
  ·cases hf
  ·rw [ho.block _ (I.lt c l h) (hne c l h hc)];exact I.blk c l h hf
 ·rcases nx h with⟨rfl,rfl⟩|⟨_,h⟩
  ·exact hge
  ·exact I.own c l h hw
 ·rcases nx h with⟨rfl,rfl⟩|⟨_,h⟩
  ·cases hw
  ·exact I.old c l h hw
 ·rcases nx h with⟨e1,e2⟩|⟨hc,h'⟩
  ·rcases nx g with⟨e3,e4⟩|⟨_,g'⟩
   ·exact absurd (e1.trans e3.symm) hcd
   ·rw [e1];exact I.inj b d k l2 hk g' h1 ho2 (e1 ▸ hcd)
  ·rcases nx g with⟨e3,e4⟩|⟨_,g'⟩
   ·rw [e3];exact I.inj c b l k h' hk ho1 h1 hc
   ·exact I.inj c d l l2 h' g' ho1 ho2 hcd
 ·rcases nx h with⟨rfl,rfl⟩|⟨_,h⟩
  ·cases hsf
  ·exact I.se c l h hw hsf
 ·rcases nx h with⟨rfl,rfl⟩|⟨hc,h⟩
  ·exact⟨rfl,h2,hS⟩
  ·obtain⟨g1,g2,g3⟩:=I.so c l h hsf
   exact⟨g1,g2,Soft.keep g3 (ho.block _ (I.lt c l h) (hne c l h hc))⟩
 ·rcases nx h with⟨rfl,rfl⟩|⟨hc,h⟩
  ·cases hf;exact⟨rfl,hS,φ,hΦ,hp⟩
  ·obtain⟨g1,g2,ψ,g3,g4⟩:=I.sof c l q h hf
   exact⟨g1,Soft.keep g2 (ho.block _ (I.lt c l h) (hne c l h hc)),ψ,g3,ψ.grow (only_growS ho h3 (fun e=>hne c l h hc e.symm)) g4⟩
theorem Ist.cast{bl:Nat→Option Blk}{vis:Nat→Bool}{bl': Nat→Option Blk}{vis': Nat→Bool}(I:InvD A S W κ Φ E bl vis w)(h1:∀ b,bl' b=bl b)(h2:∀ n,vis' n=vis n):InvD A S W κ Φ E bl' vis' w:=by
 rw [show bl'=bl from funext h1,show vis'=vis from funext h2];exact I
theorem PlanOk.shown(H:PlanOk ops m pl){κi:List Value}{Φi:List VP}{more': List VP}{st rs:List Nat}(C:Closed ops L i)(he:nth pl i=some e)(htouch:∀ b,hasN rs b=true→touch e b=true)(I:InvD A S W κ Φ E (blkL m pl L) (visL m pl L) w)(e3:Φ=Φi++more'):InvU (andSt A E (hasN st)) Φi E (seeD ops m (pl.take i) st rs) (visL m (pl.take i) (Rgn.pre ops (pl.take i).length)) w:=by
 have hlen:=H.tlen he
 have nx:∀ {b k},seeD ops m (pl.take i) st rs b=some k→∃ (k0:Blk) (s:Bool),blkL m pl L b=some ⟨k0.ty,k0.cells,k0.own,k0.fact,s⟩∧(k0.soft=false→s=false)∧k=⟨k0.ty,k0.cells,k0.own,k0.fact,k0.soft && !hasN st b⟩:=fun {b k} h=>by
  unfold seeD at h
  rw [hlen] at h
  split at h
  ·rename_i hr
   cases hb:blkL m (pl.take i) (Rgn.pre ops i) b with
   | none=>rw [hb] at h;cases h
   | some k0 =>
    rw [hb] at h
    obtain⟨s,h1,h2,_⟩:=H.view he C.out C.pre C.cl (htouch b hr) hb
    exact⟨k0,s,h1,h2,(Option.some.inj h).symm⟩
  ·cases h
 refine⟨fun b k h hf=>?_,fun n φ h hv=>?_,fun b k h ho hs=>?_,fun b k n φ h hf hn=>?_⟩
 ·obtain⟨k0,s,h1,h2,rfl⟩:=nx h
  have h4:=I.blk b _ h1 hf
  exact h4
 ·rw [hlen] at hv
  exact φ.mono (fun _ _ hk=>.inl hk) (I.fac n φ (by rw [e3];exact nth_app_l h) (H.vis C.pre hv))
 ·obtain⟨k0,s,h1,h2,rfl⟩:=nx h
  have hs:(k0.soft && !hasN st b)=false:=hs
  rw [Bool.and_eq_false_iff] at hs
  rcases hs with hs|hs
  ·exact .inl (I.se b _ h1 ho (h2 hs))
  ·rw [Bool.not_eq_false'] at hs
   exact .inr ⟨b,hs,rfl⟩
 ·obtain⟨k0,s,h1,h2,rfl⟩:=nx h
  obtain⟨_,_,ψ,g3,g4⟩:=I.sof b _ n h1 hf
  rw [e3,nth_app_l hn] at g3
  cases g3
  exact g4
theorem PlanOk.stOwn(H:PlanOk ops m pl){r:SV}{nk nv:Nat}{fl:Option Nat}{st rs:List Nat}(C:Closed ops L i)(he:nth pl i=some (.ca r nk nv fl st rs)):∀ b,hasN st b=true→∃ k,blkL m pl L b=some k∧k.own=true:=fun b hb=>by
 obtain⟨h1,⟨k,h2,h3⟩,_⟩:=H.stl he (b:=b) hb
 obtain⟨s,h4,_⟩:=H.view he C.out C.pre C.cl h1 h2
 exact⟨_,h4,h3⟩
theorem step_D(H:PlanOk ops m pl)(g:Good P S W ops m κ0 Φ0 pl κ Φ)(hk:m.nk=κ0.length)(hv:m.nv=Φ0.length)(G:AgF m.df E0 m.fr a0)(C:Closed ops L i)(ho:ops[i]? = some o)(I:Ist A S W ops m κ Φ pl E0 a0 L u w E):wpOp P ops Q i (fun a' w' => ∃ v:Got,a'=(fill ops u ops.size a0).put o.dst v.v∧∃ A' E', Ist A' S W ops m κ Φ pl E0 a0 (ins i L) (upd u i v) w' E') (fill ops u ops.size a0) w:=by
 have hi:i<ops.size:=(Array.getElem?_eq_some_iff.1 ho).1
 obtain⟨e,he⟩:=nth_some_of_lt (l:=pl) (i:=i) (by rw [H.len];exact hi)
 have agE:AgreeL m pl L E E:=⟨fun _ _=>rfl,rfl,fun _ _=>rfl⟩
 unfold wpOp
 rw [ho]
 simp only
 cases g.at_ i e he with
 | ev hn =>
  rcases nextD_at (H:=H) he ho hn with⟨hw,rfl⟩|⟨r,ef,hw,hev,rfl⟩
  ·rw [if_neg (by rw [H.want G I C ho hw];simp)]
   refine⟨⟨undef,0,0⟩,rfl,A,E,H.upd I C he I.same agE H.bits ?_ rfl⟩
   exact H.invSame I.inv he (fun _ _ _ _ _ e=>by cases e) (fun _=>rfl) (fun _=>rfl) (fun n=>vis_ins fun _ j h=>mk_not he (fun _ _ _ _ _ e=>by cases e) h)
  ·rw [if_pos (H.want G I C ho hw)]
   left
   have hd:=does_op (H.sees G I C he) hev
   cases ef with
   | non =>
    have hd:(execOp (fill ops u ops.size a0).eval o).run P w=.ok (.value (r.d E)) w:=hd
    simp only [Oper.wp,hd,Oper.upon]
    refine⟨⟨r.d E,0,0⟩,rfl,A,E,H.upd I C he I.same agE H.bits ?_ rfl⟩
    exact H.invSame I.inv he (fun _ _ _ _ _ e=>by cases e) (fun _=>rfl) (fun _=>rfl) (fun n=>vis_ins fun _ j h=>mk_not he (fun _ _ _ _ _ e=>by cases e) h)
   | al ty cells row =>
    obtain⟨hd,hr,hT⟩:=hd
    simp only [Oper.wp,hd,Oper.upon]
    obtain⟨ag,inv⟩:=H.invAl I.inv C H.bits he hT
    refine⟨⟨rowV w.heap.size row,0,0⟩,rfl,_,_,H.upd (E' := { E with β:=fun b=>if b=m.bl.length+nAl (pl.take i) then w.heap.size else E.β b }) I C he ⟨fun b hb=>?_,fun n hn=>I.same.k n hn,fun n hn=>I.same.v n hn⟩ ag H.bits inv ?_⟩
    ·rw [← I.same.b b hb]
     exact if_neg (by omega)
    ·show rowV w.heap.size row=r.d _
     rw [hr]
     cases row<;>simp [rowV,rowS,SV.d,S1.d,At.d,sxD]
   | st b cells =>
    obtain⟨hd,k,hk', ho', hl,hT,hT', hr⟩:=hd
    simp only [Oper.wp,hd,Oper.upon]
    have hbk:∃ s,blkL m pl L b=some ⟨k.ty,k.cells,k.own,k.fact,s⟩∧k.fact=none:=by
     have hk' : (match rdOf (eoD ops m (pl.take i) i) o.op with|some b' => if Nat.beq b b' then clear (blkL m (pl.take i) (Rgn.pre ops i) b) else none|none=>none)=some k:=hk'
     split at hk'
     ·rename_i b' hb
      split at hk'
      ·rename_i hbb
       have hbb:=Nat.eq_of_beq_eq_true hbb
       subst hbb
       obtain⟨h1,h2⟩:=clear_ex hk'
       obtain⟨s,h3,_⟩:=H.view he C.out C.pre C.cl (by rw [hb];exact Nat.beq_refl b) h1
       exact⟨s,h3,h2⟩
      ·cases hk'
     ·cases hk'
    obtain⟨s,hbk,hfn⟩:=hbk
    exact⟨⟨undef,0,0⟩,rfl,A,E,H.upd I C he I.same agE H.bits (H.invSt I.inv C he hbk hfn ho' hl hT hT') rfl⟩
 | @ca r κi κs more Φi φs more' st rs e2 e3 e4 e5 e6 e7 =>
  have hlen:=H.tlen he
  obtain⟨β,κ', ℓ⟩:=E
  have hek:κ'=κi++(κs++more):=I.inv.ek.trans e2
  subst hek
  obtain⟨f,args,R,h1,h2,h3⟩:=e6 (A:=andSt A ⟨β,κi++(κs++more),ℓ⟩ (hasN st)) (more:=κs++more) β ℓ w (H.shown (κi:=κi) (st:=st) (rs:=rs) C he (fun b hb=>by show (hasN rs b||_)=true;rw [hb];rfl) I.inv e3)
  obtain⟨hw,hx⟩:=call_at (H:=H) G I C he ho h1
  rw [if_pos hw]
  left
  simp only [Oper.wp,hx,Oper.upon]
  refine h2.mono fun e w' hr=>?_
  obtain⟨v,xs,rfl,x1,x2,x3,x4⟩:=h3 e w' hr
  have hvb:Φi.length=m.nv+nV (pl.take i):=by rw [e5,hv]
  have hkb:κi.length=m.nk+nK (pl.take i):=by rw [e4,hk]
  let E' : Env:=⟨β,κi++(κs++more),fun n=>if m.nv+nV (pl.take i)≤n∧n<m.nv+nV (pl.take i)+φs.length then kat xs (n-(m.nv+nV (pl.take i))) else ℓ n⟩
  have hin:∀ n,m.nv+nV (pl.take i)≤n→n<m.nv+nV (pl.take i)+φs.length→mkV (n-m.nv) 0 pl=some i:=fun n a b=>H.mkHere he (by omega) (by omega)
  have ag:AgreeL m pl L ⟨β,κi++(κs++more),ℓ⟩ E' := ⟨fun _ _=>rfl,rfl,fun n hn=>by
   refine if_neg fun⟨a,b⟩=>?_
   have hm:=hin n a b
   have hn:(Nat.blt n m.nv||match mkV (n-m.nv) 0 pl with|some j=>L j|none=>false)=true:=hn
   simp only [hm,C.out,Bool.or_false] at hn
   have:=blt_lt hn
   omega⟩
  have I1:=I.inv.settle (st:=hasN st) (H.stOwn C he)
  have hb1:∀ b,blkL m pl (ins i L) b=setS (hasN st) b (blkL m pl L b):=fun b=>blk_ins he (fun _ j k h=>al_not he (fun _ _ _ _ _ e=>by cases e) h) rfl
  refine⟨⟨v,0,0⟩,rfl,_,E', H.upd (E' := E') I C he ⟨fun b hb=>I.same.b b hb,fun n hn=>I.same.k n hn,fun n hn=>?_⟩ ag H.bits (Ist.cast (InvD.call (E' := E') (vis' := visL m pl (ins i L)) I1 x4 (by exact e2.symm) rfl (fun b k hbk=>?_) (fun n=>?_) (fun n φ hn hvis=>?_)) hb1 (fun _=>rfl)) ?_⟩
  ·rw [← I.same.v n hn]
   exact if_neg (by omega)
  ·cases hbb:blkL m pl L b with
   | none=>rw [hbb] at hbk;cases hbk
   | some k0 =>
    rw [hbb] at hbk
    have hbk:=Option.some.inj hbk
    subst hbk
    exact At.agreeL ag (H.blkIn (b:=b) (k:=k0) C.cl H.bits hbb)
  ·show (if _ then _ else _:Value).oneCell'=true
   split
   ·exact x1 _
   ·exact I.inv.ol n
  ·by_cases hr:m.nv+nV (pl.take i)≤n∧n<m.nv+nV (pl.take i)+φs.length
   ·show φ.p _ (if _ then _ else _) w'
    rw [if_pos hr]
    refine x3 _ φ ?_
    rw [e3,nth_eq,List.getElem?_append_right (by omega)] at hn
    rw [hvb] at hn
    rw [List.getElem?_append_left (by omega)] at hn
    rw [nth_eq];exact hn
   ·show φ.p _ (if _ then _ else _) w'
    rw [if_neg hr]
    refine φ.mono (fun _ _ hk=>.inl hk) (φ.grow (GrowS.below x4) (I1.fac n φ hn ?_))
    rw [← vis_ins (i:=i) (fun hle j hj=>?_)]
    ·exact hvis
    ·rintro rfl
     obtain⟨_,v', nk', nv', st', rs', h4,h5,h6⟩:=mkV_at _ _ 0 j hj
     rw [Nat.sub_zero] at h4 h5 h6
     rw [he] at h4;cases h4
     omega
  ·refine x2 E' (fun n=>?_) (fun n hn=>?_)
   ·show kat (κi++(κs++more)) _=_∨_
    rw [← hkb,kat_app]
    by_cases hn:n<κs.length
    ·exact .inl (kat_left _ _ _ hn)
    ·exact .inr (by omega)
   ·show (if _ then _ else _)=_
    rw [if_pos ⟨by omega,by omega⟩,Nat.add_sub_cancel_left]
 | @co κi more Φi φ more' b st rs e2 e3 e4 e5 e6 =>
  have hlen:=H.tlen he
  obtain⟨β,κ', ℓ⟩:=E
  have hek:κ'=κi++more:=I.inv.ek.trans e2
  subst hek
  obtain⟨hφ,e6⟩:=e6
  obtain⟨f,args,h1,h2⟩:=e6 (A:=andSt A ⟨β,κi++more,ℓ⟩ (hasN st)) (more:=more) β ℓ w (H.shown (κi:=κi) (st:=st) (rs:=rs) C he (fun b hb=>by show (hasN rs b||_)=true;rw [hb];rfl) I.inv e3)
  obtain⟨hw,hx⟩:=call_at (H:=H) G I C he ho h1
  rw [if_pos hw]
  left
  simp only [Oper.wp,hx,Oper.upon]
  refine h2.mono fun e w' hr=>?_
  obtain⟨rfl,x1,x2⟩:=hr
  have hvb:Φi.length=m.nv+nV (pl.take i):=by rw [e5,hv]
  obtain⟨_,k0,hk0,hsf,hnst⟩:=H.fl he
  obtain⟨s,hbk,_,hs⟩:=H.view he C.out C.pre C.cl (by show (hasN rs b||Nat.beq b b)=true;rw [Nat.beq_refl,Bool.or_true]) hk0
  have hs:=hs (Nat.beq_refl b) hsf
  subst hs
  have I1:=I.inv.settle (st:=hasN st) (H.stOwn C he)
  have hb0:setS (hasN st) b (blkL m pl L b)=some ⟨k0.ty,k0.cells,k0.own,k0.fact,true⟩:=by rw [hbk];simp only [setS,hnst,Bool.not_false,Bool.and_true]
  have hΦ:nth Φ (m.nv+nV (pl.take i))=some φ:=by rw [e3,nth_eq,List.getElem?_append_right (by omega),hvb,Nat.sub_self];rfl
  have I2:=InvD.fill (n:=m.nv+nV (pl.take i)) I1 hb0 rfl x2 x1 (hφ x1) hΦ
  refine⟨⟨.pointer (some ⟨β b,0,none⟩),0,0⟩,rfl,_,⟨β,κi++more,ℓ⟩,H.upd I C he I.same agE H.bits (Ist.cast I2 (fun c=>?_) (fun n=>vis_ins fun _ j h=>mk_not he (fun _ _ _ _ _ e=>by cases e) h)) rfl⟩
  by_cases hc:c=b
  ·subst hc
   rw [if_pos rfl]
   obtain⟨cells,fact,g1,g2⟩:=H.blkW C he (Nat.beq_refl c) hnst hbk
   rcases g2 with⟨_,_,g3,_⟩|⟨_,_,_,_,_,_,g4,g5⟩
   ·cases g3
   ·rw [g1,g4,g5]
  ·rw [if_neg hc]
   exact blk_ins he (fun _ j k h=>al_not he (fun _ _ _ _ _ e=>by cases e) h) (by
    show Nat.beq b c=false
    cases e:Nat.beq b c with
    | false=>rfl
    | true=>exact absurd (Nat.eq_of_beq_eq_true e).symm hc)
 | @va r κi κs more Φi more' e2 e3 e4 e5 =>
  have hlen:=H.tlen he
  obtain⟨β,κ', ℓ⟩:=E
  have hek:κ'=κi++(κs++more):=I.inv.ek.trans e2
  subst hek
  obtain⟨o', V,h1,h2,h3,h4⟩:=e5 (A:=andSt A ⟨β,κi++(κs++more),ℓ⟩ (hasN [])) (more:=κs++more) β ℓ w (H.shown (κi:=κi) (st:=[]) (rs:=[]) C he (fun b hb=>by cases hb) I.inv e3) (fill ops u ops.size a0).eval (by rw [hlen];exact fun x v hv=>H.eo G I C (H.lt he) hv)
  rw [hlen] at h1 h2
  rw [ho] at h1
  cases h1
  rw [if_pos (H.want G I C ho h2)]
  left
  simp only [Oper.wp,h3,Oper.upon]
  have hkb:κi.length=m.nk+nK (pl.take i):=by rw [e4,hk]
  refine⟨⟨V,0,0⟩,rfl,A,_,H.upd I C he I.same ⟨fun _ _=>rfl,rfl,fun _ _=>rfl⟩ H.bits (H.invSame I.inv he (fun _ _ _ _ _ e=>by cases e) (fun _=>rfl) (fun _=>rfl) (fun n=>vis_ins fun _ j h=>?_)) ?_⟩
  ·rintro rfl
   obtain⟨_,v', nk', nv', st', rs', h5,h6,h7⟩:=mkV_at _ _ 0 j h
   rw [Nat.sub_zero] at h5 h6 h7
   rw [he] at h5;cases h5
   omega
  ·refine h4 _ (fun n=>?_)
   show kat (κi++(κs++more)) _=_∨_
   rw [← hkb,kat_app]
   by_cases hn:n<κs.length
   ·exact .inl (kat_left _ _ _ hn)
   ·exact .inr (by omega)
theorem region_D(H:PlanOk ops m pl)(g:Good P S W ops m κ0 Φ0 pl κ Φ)(hk:m.nk=κ0.length)(hv:m.nv=Φ0.length)(hm:P.follows .mixedOrders=true){id:Nat}(G:AgF m.df E m.fr a0)(I:Inv A S W κ0 Φ0 E m.bl m.sf w)(fin:∀ A' E' u w', Ist A' S W ops m κ Φ pl E' a0 (fun _=>true) u w' E'→AgF m.df E' m.fr a0→Q .normal (fill ops u ops.size a0) w'):wsC P (.region id ops true) Q a0 w:=by
 refine⟨hm,?_⟩
 obtain⟨⟨more,hmk⟩,moreF,hmF⟩:=g.pre
 have hok:=H.ok
 let E0:Env:=⟨E.β,κ,E.ℓ⟩
 have s0:Same m.bl.length m.nk m.nv E E0:=⟨fun _ _=>rfl,fun n hn=>by
  show kat κ n=kat E.κ n
  rw [hmk,I.ek,kat_left _ _ _ (by omega)],fun _ _=>rfl⟩
 simp only [MS.okB,Bool.and_eq_true] at hok
 have A0:AgF m.df E0 m.fr a0:=G.same s0 hok.1
 have hdr:Grow w w.drew:=Grow.drew w
 refine wp_region_inv H.pre H.apart (fun L u w=>∃ A' E', Ist A' S W ops m κ Φ pl E0 a0 L u w E') ⟨A,E0,⟨⟨fun _ _=>rfl,fun _ _=>rfl,fun _ _=>rfl⟩,?_,fun j _=>rfl,fun j e _ h=>(by cases h)⟩⟩ (fun L i o ho hL hpre hcl u w hI=>?_) (fun L u w hall hI=>?_)
 ·have hbk:∀ b,blkL m pl (fun _=>false) b=(if Nat.blt b m.bl.length then nth m.bl b else none):=fun b=>by
   unfold blkL base
   have hs:settled b (fun _=>false) 0 pl=false:=by
    cases h:settled b (fun _=>false) 0 pl with
    | false=>rfl
    | true=>obtain⟨_,_,_,h2,_⟩:=(settled_iff _ 0).1 h;cases h2
   by_cases hb:Nat.blt b m.bl.length=true
   ·rw [if_pos hb,if_pos hb]
    cases h0:nth m.bl b with
    | none=>rfl
    | some k0=>simp only [foldB_id pl 0 m.nv k0 (b:=b) (L:=fun _=>false) (fun _ _ _ _=>rfl),hs,Bool.not_false,Bool.and_true]
   ·rw [if_neg hb,if_neg hb]
    cases h0:alAt (b-m.bl.length) 0 pl with
    | none=>rfl
    | some x=>rfl
  have nx:∀ {b k},blkL m pl (fun _=>false) b=some k→nth m.bl b=some k:=fun {b k} h=>by
   rw [hbk] at h
   by_cases hb:Nat.blt b m.bl.length=true
   ·rw [if_pos hb] at h;exact h
   ·rw [if_neg hb] at h;cases h
  have hst:∀ j:Nat,w.drew.heap[j]? = w.heap[j]?:=fun _=>rfl
  refine⟨rfl,?_,fun b k h=>I.lt b k (nx h),fun b k h hf=>?_,fun b k h=>I.own b k (nx h),fun b k h=>I.old b k (nx h),fun b c k l h1 h2=>I.inj b c k l (nx h1) (nx h2),I.ol,g.one I.ok,fun n φ hn hvis=>?_,I.up,fun b k h=>I.se b k (nx h),fun b k h hs=>?_,fun b k n h hf=>?_⟩
  ·exact I.bel.trans ⟨rfl,rfl,rfl,Nat.le_refl _,fun _ _=>rfl⟩
  ·have h:=nx h
   exact (I.blk b k h hf).env (At.sameL s0 (List.all_eq_true.1 hok.2 k (nth_mem h)))
  ·unfold visL at hvis
   rw [Bool.or_eq_true,Bool.and_eq_true,Bool.and_eq_true] at hvis
   rcases hvis with⟨hvis,hs⟩|⟨_,hvis⟩
   ·have hn' := blt_lt hvis
    have h0:nth Φ0 n=some φ:=by
     rw [hmF,nth_eq,List.getElem?_append_left (by omega)] at hn
     rw [nth_eq];exact hn
    exact φ.grow (GrowS.drew _ _) (I.fac n φ h0 (by rw [Bool.not_eq_true'] at hs;exact hs))
   ·split at hvis<;>cases hvis
  ·obtain⟨h1,h2,h3⟩:=I.so b k (nx h) hs
   exact⟨h1,h2,Soft.keep h3 (hst _)⟩
  ·obtain⟨h1,h2,φ,h3,h4⟩:=I.sof b k n (nx h) hf
   refine⟨h1,Soft.keep h2 (hst _),φ,?_,φ.grow (GrowS.drew _ _) h4⟩
   rw [hmF];exact nth_app_l h3
 ·obtain⟨A', E', hI⟩:=hI
  have e1:(fun j=>j == i||L j)=ins i L:=rfl
  rw [e1]
  exact step_D H g hk hv A0 ⟨hL,hpre,hcl⟩ ho hI
 ·obtain⟨A', E', hI⟩:=hI
  have hL:∀ j,j<pl.length→L j=true:=fun j hj=>hall j (by rw [← H.len];exact hj)
  have hI' : Ist A' S W ops m κ Φ pl E' a0 (fun _=>true) u w E' := by
   have hb:blkL m pl L=blkL m pl (fun _=>true):=funext fun b=>by
    unfold blkL
    have e1:base m pl L b=base m pl (fun _=>true) b:=by
     unfold base
     by_cases hbb:Nat.blt b m.bl.length=true
     ·rw [if_pos hbb,if_pos hbb]
     ·rw [if_neg hbb,if_neg hbb]
      cases h0:alAt (b-m.bl.length) 0 pl with
      | none=>rfl
      | some x =>
       obtain⟨j,k⟩:=x
       obtain⟨_,_,v,row,rd,h3,_⟩:=alAt_at _ _ 0 j k h0
       rw [Nat.sub_zero] at h3
       simp only [hL j (nth_lt h3),if_true]
    have e2:∀ k,foldB b L 0 m.nv pl k=foldB b (fun _=>true) 0 m.nv pl k:=fun k=>foldB_congr pl 0 m.nv k fun j e he _=>by rw [Nat.zero_add];exact hL j (nth_lt he)
    have e3:settled b L 0 pl=settled b (fun _=>true) 0 pl:=by
     rw [Bool.eq_iff_iff,settled_iff,settled_iff]
     exact⟨fun⟨j,e,h1,_,h3⟩=>⟨j,e,h1,rfl,h3⟩,fun⟨j,e,h1,_,h3⟩=>⟨j,e,h1,by rw [Nat.zero_add];exact hL j (nth_lt h1),h3⟩⟩
    rw [e1]
    cases base m pl (fun _=>true) b with
    | none=>rfl
    | some k=>simp only [e2,e3]
   have hvv:visL m pl L=visL m pl (fun _=>true):=funext fun n=>by
    unfold visL
    congr 2
    split
    ·rename_i j hj
     obtain⟨_,v,nk,nv,st,rs,h3,_⟩:=mkV_at _ _ 0 j hj
     rw [Nat.sub_zero] at h3
     exact hall j (by rw [← H.len];exact nth_lt h3)
    ·rfl
   refine⟨⟨fun _ _=>rfl,fun _ _=>rfl,fun _ _=>rfl⟩,by rw [← hb,← hvv];exact hI.inv,fun j h=>(by cases h),fun j e he _=>hI.on j e he (hall j (H.lt he))⟩
  exact fin A' E' u w hI' (A0.same hI.same hok.1)
end
section
variable {P:Program} {A S:Nat→Prop} {W:World} {ops:Array Oper} {m:MS} {κ0 κ κs:List Value} {Φ0 Φ φs:List VP} {pl:List PE} {Q:Exit→Act→World→Prop} {E:Env} {w w' : World} {u:Nat→Got} {a0:Act}
theorem alAt_some:∀ (l:List PE) (q i:Nat),q<nAl l→∃ x,alAt q i l=some x
 | .ev v (.al t c row) rd::l,0,i,h=>⟨_,rfl⟩
 | .ev v (.al t c row) rd::l,q+1,i,h=>alAt_some l q (i+1) (by simp only [nAl] at h;omega)
 | .ev v (.st b c) rd::l,q,i,h=>by
  obtain⟨x,hx⟩:=alAt_some l q (i+1) h
  exact⟨x,by rw [← hx];rfl⟩
 | .ev v .non rd::l,q,i,h=>by
  obtain⟨x,hx⟩:=alAt_some l q (i+1) h
  exact⟨x,by rw [← hx];rfl⟩
 | .no::l,q,i,h=>by
  obtain⟨x,hx⟩:=alAt_some l q (i+1) h
  exact⟨x,by rw [← hx];rfl⟩
 | .ca _ _ _ _ _ _::l,q,i,h=>by
  obtain⟨x,hx⟩:=alAt_some l q (i+1) h
  exact⟨x,by rw [← hx];rfl⟩
theorem hasN_app:∀ (a b:List Nat) (n:Nat),hasN (a++b) n=(hasN a n||hasN b n)
 | [],b,n=>rfl
 | x::a,b,n=>by show (Nat.beq x n||hasN (a++b) n)=((Nat.beq x n||hasN a n)||hasN b n);rw [hasN_app a b n,Bool.or_assoc]
theorem mkV_some:∀ (l:List PE) (n0 q i:Nat),q<nV l→(∀ j r nk nv b st rs,nth l j=some (.ca r nk nv (some b) st rs)→nv=1)→hasN (sfD n0 l) (n0+q)=false→∃ j,mkV q i l=some j
 | .ca r nk nv fl st rs::l,n0,q,i,h,h1,hs=>by
  simp only [mkV]
  by_cases hb:Nat.blt q nv=true
  ·rw [if_pos hb]
   cases fl with
   | none=>exact⟨i,rfl⟩
   | some b =>
    exfalso
    have:=h1 0 _ _ _ _ _ _ rfl
    subst this
    have hq:=blt_lt hb
    have hq:q=0:=by omega
    subst hq
    have hs:(Nat.beq n0 (n0+0)||hasN (sfD (n0+1) l) (n0+0))=false:=hs
    rw [Nat.add_zero,Nat.beq_refl] at hs;cases hs
  ·rw [if_neg hb]
   have hb:¬ q<nv:=fun e=>hb (by rw [Nat.blt_eq];exact e)
   refine mkV_some l (n0+nv) (q-nv) (i+1) (by simp only [nV,PE.nv] at h;omega) (fun j r nk nv b st rs hj=>h1 (j+1) r nk nv b st rs hj) ?_
   rw [show n0+nv+(q-nv)=n0+q by omega]
   cases fl with
   | none=>exact hs
   | some b =>
    have hs:(Nat.beq n0 (n0+q)||hasN (sfD (n0+nv) l) (n0+q))=false:=hs
    exact (Bool.or_eq_false_iff.1 hs).2
 | .ev _ _ _::l,n0,q,i,h,h1,hs=>mkV_some l (n0+0) q (i+1) (by simp only [nV,PE.nv] at h;omega) (fun j r nk nv b st rs hj=>h1 (j+1) r nk nv b st rs hj) hs
 | .no::l,n0,q,i,h,h1,hs=>mkV_some l (n0+0) q (i+1) (by simp only [nV,PE.nv] at h;omega) (fun j r nk nv b st rs hj=>h1 (j+1) r nk nv b st rs hj) hs
theorem fr_D{D:List Deferred}(I:∀ j e,nth pl j=some e→(u j).v=e.val.d E):∀ (n:Nat) {fr:List (Option SV)},AgF D E fr a0→AgF D E (frD ops pl n fr) (fill ops u n a0)
 | 0,fr,G=>G
 | n+1,fr,G=>put_F (fr_D I n G) _ _ _ (fun x hx=>by
   cases he:nth pl n with
   | none=>rw [he] at hx;cases hx
   | some e=>rw [he] at hx;cases hx;exact I n e he)
structure RunD (P:Program) (S:Nat→Prop) (W:World) (Q:Exit→Act→World→Prop) (ops:Array Oper) (m:MS) (κ0:List Value) (Φ0:List VP) (pl:List PE) (κ:List Value) (Φ:List VP):Prop where
 h:Good P S W ops m κ0 Φ0 pl κ Φ→Run P S W κ0 Φ0 Q m
theorem good_run:∀ (n:Nat) {pl:List PE},Good P S W ops m κ0 Φ0 pl κ Φ→Good P S W ops m κ0 Φ0 (runD P ops m n pl) κ Φ
 | 0,pl,g=>g
 | n+1,pl,g=>by
  show Good P S W ops m κ0 Φ0 (match nextD P ops m pl with|some e=>runD P ops m n (pl++[e])|none=>pl) κ Φ
  split
  ·rename_i e he;exact good_run n (g.ev he)
  ·exact g
theorem At.okB_up{nk nv:Nat}{xs:List Value}{a:At}(h:a.okB 0 κs.length φs.length=true)(hk:∀ n,kat E.κ (nk+n)=kat κs n∨κs.length≤n)(hv:∀ n,n<φs.length→E.ℓ (nv+n)=kat xs n):(a.up nk nv).d E=a.d ⟨E.β,κs,kat xs⟩:=by
 cases a with
 | v n=>exact hv n (blt_lt h)
 | k n=>exact (hk n).resolve_right (by have:=blt_lt h;omega)
 | c x=>rfl
 | p b off=>rfl
 | sl b off n c=>rfl
 | ls b n c=>rfl
 | fn f bs =>
  have h:bs.all (fun b=>Nat.blt b 0)=true:=h
  cases bs with
  | nil=>rfl
  | cons b l=>simp at h
 | fm f ns =>
  show Value.func (.func f) #[.agg ⟨(ns.map (nv+·)).map E.ℓ⟩] #[]=.func (.func f) #[.agg ⟨ns.map (kat xs)⟩] #[]
  rw [List.map_map]
  have e:ns.map (E.ℓ ∘ (nv+·))=ns.map (kat xs):=List.map_congr_left fun n hn=>hv n (blt_lt (List.all_eq_true.1 h n hn))
  rw [e]
theorem S1.okB_up{nk nv:Nat}{xs:List Value}{a:S1}(h:a.okB 0 κs.length φs.length=true)(hk:∀ n,kat E.κ (nk+n)=kat κs n∨κs.length≤n)(hv:∀ n,n<φs.length→E.ℓ (nv+n)=kat xs n):(a.up nk nv).d E=a.d ⟨E.β,κs,kat xs⟩:=by
 cases a with
 | o a=>exact At.okB_up h hk hv
 | agg l =>
  show Value.agg ⟨(l.map (At.up nk nv)).map (At.d E)⟩=.agg ⟨l.map (At.d ⟨E.β,κs,kat xs⟩)⟩
  rw [List.map_map]
  congr 2
  exact List.map_congr_left fun a ha=>At.okB_up (List.all_eq_true.1 h a ha) hk hv
theorem SV.okB_up{nk nv:Nat}{xs:List Value}{a:SV}(h:a.okB 0 κs.length φs.length=true)(hk:∀ n,kat E.κ (nk+n)=kat κs n∨κs.length≤n)(hv:∀ n,n<φs.length→E.ℓ (nv+n)=kat xs n):(a.up nk nv).d E=a.d ⟨E.β,κs,kat xs⟩:=by
 cases a with
 | s a=>exact S1.okB_up h hk hv
 | tup l =>
  show Value.tuple ⟨(l.map (S1.up nk nv)).map (S1.d E)⟩=.tuple ⟨l.map (S1.d ⟨E.β,κs,kat xs⟩)⟩
  rw [List.map_map]
  congr 2
  exact List.map_congr_left fun a ha=>S1.okB_up (List.all_eq_true.1 h a ha) hk hv
abbrev plN(P:Program)(ops:Array Oper)(m:MS)(pl:List PE):List PE:=runD P ops m far pl
def plC(P:Program)(ops:Array Oper)(m:MS)(pl:List PE)(sh:SV)(nk nv:Nat)(st:List Nat):List PE:=plN P ops m pl++[.ca (sh.up (m.nk+nK (plN P ops m pl)) (m.nv+nV (plN P ops m pl))) nk nv none st (rsD P ops m (plN P ops m pl))]
def plV(P:Program)(ops:Array Oper)(m:MS)(pl:List PE)(sh:SV)(nk:Nat):List PE:=plN P ops m pl++[.ca (sh.up (m.nk+nK (plN P ops m pl)) (m.nv+nV (plN P ops m pl))) nk 0 none [] []]
def plO(P:Program)(ops:Array Oper)(m:MS)(pl:List PE)(b:Nat)(st:List Nat):List PE:=plN P ops m pl++[.ca (.s (.o (.p b 0))) 0 1 (some b) st (rsD P ops m (plN P ops m pl))]
abbrev Shown(P:Program)(A:Nat→Prop)(ops:Array Oper)(m:MS)(κ:List Value)(Φ:List VP)(pl:List PE)(st:List Nat)(β:Nat→Nat)(ℓ:Nat→Value)(w:World):Prop :=
 InvU A Φ ⟨β,κ,ℓ⟩ (seeD ops m (plN P ops m pl) st (rsD P ops m (plN P ops m pl))) (visL m (plN P ops m pl) (pre ops (plN P ops m pl).length)) w
theorem RunD.cRs(st:List Nat){f:FuncId}{args:(Nat→Nat)→(Nat→Value)→Array Value}{φ:VP}{sh:SV}(sp:Split φ sh κs φs)(hc:∀ {A:Nat→Prop} {more:List Value} β ℓ w,Shown P A ops m (κ++more) Φ pl st β ℓ w→Calls P f (args β ℓ) w (Ret φ A w))(rest:RunD P S W Q ops m κ0 Φ0 (plC P ops m pl sh sh.nk sh.nv st) (κ++κs) (Φ++φs))(ha:∀ more β ℓ,argsD P ops m (plN P ops m pl) ⟨β,κ++more,ℓ⟩=some (f,(args β ℓ).toList):=by intro more β ℓ;kernel_rfl)(h1:κs.all (·.oneCell')=true:=by kernel_rfl)(h2:sh.okB 0 κs.length φs.length=true:=by kernel_rfl)(hn:Nat.beq sh.nk κs.length=true:=by kernel_rfl)(hn' : Nat.beq sh.nv φs.length=true:=by kernel_rfl):RunD P S W Q ops m κ0 Φ0 pl κ Φ :=
 by
 rw [Nat.eq_of_beq_eq_true hn,Nat.eq_of_beq_eq_true hn'] at rest
 exact⟨fun g=>rest.h (Good.ca (good_run far g) (fun {A more} β ℓ w I=>by
  refine⟨f,(args β ℓ).toList,_,ha more β ℓ,hc β ℓ w I,fun e w' hr=>?_⟩
  obtain⟨v,e1,e2,e3⟩:=ret_amb hr
  obtain⟨xs,_,x1,x2,x3⟩:=sp.at_ e2
  exact⟨v,xs,e1,x1,fun E hk hv=>by rw [SV.okB_up h2 hk hv];exact x2 _,x3,e3⟩) (kat_all h1))⟩
theorem RunD.cR{f:FuncId}{args:(Nat→Nat)→(Nat→Value)→Array Value}{φ:VP}{sh:SV}(sp:Split φ sh κs φs)(hc:∀ {A:Nat→Prop} {more:List Value} β ℓ w,Shown P A ops m (κ++more) Φ pl [] β ℓ w→Calls P f (args β ℓ) w (Ret φ A w))(rest:RunD P S W Q ops m κ0 Φ0 (plC P ops m pl sh sh.nk sh.nv []) (κ++κs) (Φ++φs))(ha:∀ more β ℓ,argsD P ops m (plN P ops m pl) ⟨β,κ++more,ℓ⟩=some (f,(args β ℓ).toList):=by intro more β ℓ;kernel_rfl)(h1:κs.all (·.oneCell')=true:=by kernel_rfl)(h2:sh.okB 0 κs.length φs.length=true:=by kernel_rfl)(hn:Nat.beq sh.nk κs.length=true:=by kernel_rfl)(hn' : Nat.beq sh.nv φs.length=true:=by kernel_rfl):RunD P S W Q ops m κ0 Φ0 pl κ Φ:=RunD.cRs [] sp hc rest ha h1 h2 hn hn'
theorem RunD.cOs(st:List Nat){f:FuncId}{args:(Nat→Nat)→(Nat→Value)→Array Value}{φ:VP}(b:Nat)(hφ:SoftV φ)(hc:∀ {A:Nat→Prop} {more:List Value} β ℓ w,Shown P A ops m (κ++more) Φ pl st β ℓ w→Calls P f (args β ℓ) w (RetOwn (β b) φ w))(rest:RunD P S W Q ops m κ0 Φ0 (plO P ops m pl b st) κ (Φ++[φ]))(ha:∀ more β ℓ,argsD P ops m (plN P ops m pl) ⟨β,κ++more,ℓ⟩=some (f,(args β ℓ).toList):=by intro more β ℓ;kernel_rfl):RunD P S W Q ops m κ0 Φ0 pl κ Φ :=
 ⟨fun g=>rest.h (Good.co (good_run far g) ⟨hφ,fun {A more} β ℓ w I=>⟨f,(args β ℓ).toList,ha more β ℓ,hc β ℓ w I⟩⟩)⟩
theorem RunD.cO{f:FuncId}{args:(Nat→Nat)→(Nat→Value)→Array Value}{φ:VP}(b:Nat)(hφ:SoftV φ)(hc:∀ {A:Nat→Prop} {more:List Value} β ℓ w,Shown P A ops m (κ++more) Φ pl [] β ℓ w→Calls P f (args β ℓ) w (RetOwn (β b) φ w))(rest:RunD P S W Q ops m κ0 Φ0 (plO P ops m pl b []) κ (Φ++[φ]))(ha:∀ more β ℓ,argsD P ops m (plN P ops m pl) ⟨β,κ++more,ℓ⟩=some (f,(args β ℓ).toList):=by intro more β ℓ;kernel_rfl):RunD P S W Q ops m κ0 Φ0 pl κ Φ:=RunD.cOs [] b hφ hc rest ha
theorem RunD.cV{f:FuncId}{args:(Nat→Nat)→(Nat→Value)→Array Value}{V:Value}(κs:List Value)(sh:SV)(hc:∀ {A:Nat→Prop} {more:List Value} β ℓ w,Shown P A ops m (κ++more) Φ pl [] β ℓ w→Calls P f (args β ℓ) w (RetV V w))(rest:RunD P S W Q ops m κ0 Φ0 (plC P ops m pl sh sh.nk 0 []) (κ++κs) (Φ++[]))(ha:∀ more β ℓ,argsD P ops m (plN P ops m pl) ⟨β,κ++more,ℓ⟩=some (f,(args β ℓ).toList):=by intro more β ℓ;kernel_rfl)(hV:∀ β ℓ,V=sh.d ⟨β,κs,ℓ⟩:=by intro β ℓ;kernel_rfl)(h1:κs.all (·.oneCell')=true:=by kernel_rfl)(h2:sh.okB 0 κs.length 0=true:=by kernel_rfl)(hn:Nat.beq sh.nk κs.length=true:=by kernel_rfl):RunD P S W Q ops m κ0 Φ0 pl κ Φ :=
 by
 rw [Nat.eq_of_beq_eq_true hn] at rest
 exact⟨fun g=>rest.h (Good.ca (φs:=[]) (good_run far g) (fun {A more} β ℓ w I=>by
  refine⟨f,(args β ℓ).toList,_,ha more β ℓ,hc β ℓ w I,fun e w' hr=>?_⟩
  obtain⟨e1,e2⟩:=hr.is
  exact⟨V,[],e1,fun n=>rfl,fun E hk hv=>by rw [SV.okB_up (φs:=[]) h2 hk hv];exact hV _ _,fun n ψ hn=>(by cases n<;>cases hn),e2⟩) (kat_all h1))⟩
def binD(ops:Array Oper)(m:MS)(pl:List PE)(o:Oper):Option (BinOp×TypeId×SV×SV) :=
 match o.op with
 | .binOp op t x y _=>match eoD ops m pl pl.length x,eoD ops m pl pl.length y with
  | some v,some u=>some (op,t,v,u)
  | _,_=>none
 | _=>none
def opD(ops:Array Oper)(pl:List PE):Option Oper:=match ops[pl.length]? with|some o=>(match wantD ops pl pl.length o with|some true=>some o|_=>none)|none=>none
theorem RunD.bi{V:Value}(κs:List Value)(sh:SV){op:BinOp}{t:TypeId}{a c:Value}(h:∀ w o (ρ:Operand→Value) x y t', o.op=.binOp op t x y t'→ρ x=a→ρ y=c→(execOp ρ o).run P w=.ok (.value V) w)(rest:RunD P S W Q ops m κ0 Φ0 (plV P ops m pl sh sh.nk) (κ++κs) Φ)(ha:∀ more β ℓ,((opD ops (plN P ops m pl)).bind (binD ops m (plN P ops m pl))).map (fun q=>(q.1,q.2.1,q.2.2.1.d ⟨β,κ++more,ℓ⟩,q.2.2.2.d ⟨β,κ++more,ℓ⟩))=some (op,t,a,c):=by intro more β ℓ;kernel_rfl)(hV:∀ β ℓ,V=sh.d ⟨β,κs,ℓ⟩:=by intro β ℓ;kernel_rfl)(h1:κs.all (·.oneCell')=true:=by kernel_rfl)(h2:sh.okB 0 κs.length 0=true:=by kernel_rfl)(hn:Nat.beq sh.nk κs.length=true:=by kernel_rfl):RunD P S W Q ops m κ0 Φ0 pl κ Φ:=by
 rw [Nat.eq_of_beq_eq_true hn] at rest
 refine⟨fun g=>rest.h (Good.va (good_run far g) (fun {A more} β ℓ w I ρ hρ=>?_) (kat_all h1))⟩
 have ha:=ha more β ℓ
 unfold opD at ha
 cases ho:ops[(runD P ops m far pl).length]? with
 | none=>rw [show ops[(plN P ops m pl).length]? = none from ho] at ha;cases ha
 | some o =>
  rw [show ops[(plN P ops m pl).length]? = some o from ho] at ha
  simp only at ha
  split at ha
  ·rename_i hw
   refine⟨o,V,rfl,hw,?_,fun E hk=>by rw [SV.okB_up (φs:=[]) (xs:=[]) h2 hk (fun n hn=>by cases hn)];exact hV _ _⟩
   simp only [Option.bind_some] at ha
   unfold binD at ha
   split at ha
   ·rename_i op' t1 x y t' hop
    split at ha
    ·rename_i v v' hv hu
     simp only [Option.map_some,Option.some.injEq,Prod.mk.injEq] at ha
     obtain⟨rfl,rfl,h3,h4⟩:=ha
     exact h w o ρ x y t' hop ((hρ x v hv).trans h3) ((hρ y v' hu).trans h4)
    ·cases ha
   ·cases ha
  ·cases ha
theorem Run.dr(R:RunD P S W Q (opsOf (runM P far m)) (runM P far m) κ Φ [] κ Φ):Run P S W κ Φ Q m:=run_sound far (R.h .nil)
theorem get_blD{b:Nat}{k:Blk}(h:nth (blD m pl) b=some k):blkL m pl (fun _=>true) b=some k:=by
 unfold blD at h
 rw [nth_map,nth_eq] at h
 have hb:b<m.bl.length+nAl pl:=by
  refine Nat.lt_of_not_le fun hle=>?_
  rw [List.getElem?_eq_none (by simpa using hle)] at h
  cases h
 rw [List.getElem?_range hb] at h
 have h:(blkL m pl (fun _=>true) b).getD ⟨0,[],false,none,false⟩=k:=Option.some.inj h
 have hx:∃ x,blkL m pl (fun _=>true) b=some x:=by
  have hbase:∃ x,base m pl (fun _=>true) b=some x:=by
   unfold base
   by_cases hbb:Nat.blt b m.bl.length=true
   ·rw [if_pos hbb];exact nth_some_of_lt (blt_lt hbb)
   ·rw [if_neg hbb]
    have hge:m.bl.length≤b:=Nat.le_of_not_lt fun e=>hbb (by rw [Nat.blt_eq];exact e)
    obtain⟨⟨j,x⟩,hn⟩:=alAt_some pl (b-m.bl.length) 0 (by omega)
    rw [hn];exact⟨x,rfl⟩
  obtain⟨x,hx⟩:=hbase
  unfold blkL
  rw [hx];exact⟨_,rfl⟩
 obtain⟨x,hx⟩:=hx
 rw [hx] at h ⊢
 rw [show x=k from h]
theorem RunD.en(R:Run P S W κ Φ Q (aftD ops m (plN P ops m pl)))(hd:isDr m=true:=by kernel_rfl)(ho:opsOf m=ops:=by rfl)(hp:(planB ops m (plN P ops m pl)&&Nat.beq m.nk κ0.length&&Nat.beq m.nv Φ0.length)=true:=by kernel_rfl)(hm:P.follows .mixedOrders=true:=by kernel_rfl):RunD P S W Q ops m κ0 Φ0 pl κ Φ:=⟨fun g=>by
  have g:Good P S W ops m κ0 Φ0 (plN P ops m pl) κ Φ:=good_run far g
  simp only [Bool.and_eq_true] at hp
  obtain⟨⟨h1,h2⟩,h3⟩:=hp
  have H:=plan_ok h1
  have h2:=Nat.eq_of_beq_eq_true h2
  have h3:=Nat.eq_of_beq_eq_true h3
  generalize plN P ops m pl=pl at *
  refine Run.mk fun A E a w I G=>?_
  unfold isDr at hd
  unfold opsOf at ho
  split at hd
  ·rename_i id ops' hc
   rw [hc] at ho ⊢
   have ho:ops'=ops:=ho
   subst ho
   refine region_D (id:=id) H g h2 h3 hm G I fun A' E' u w' J G' => ?_
   refine R.r A' E' _ w' ⟨J.inv.ek,J.inv.bel,fun b k h=>J.inv.lt b k (get_blD h),fun b k h=>J.inv.blk b k (get_blD h),fun b k h=>J.inv.own b k (get_blD h),fun b k h=>J.inv.old b k (get_blD h),fun b c k l h h' => J.inv.inj b c k l (get_blD h) (get_blD h'),J.inv.ol,J.inv.ok,fun n φ hn hs=>?_,J.inv.up,fun b k h=>J.inv.se b k (get_blD h),fun b k h=>J.inv.so b k (get_blD h),fun b k n h=>J.inv.sof b k n (get_blD h)⟩ (fr_D (fun j e he=>J.on j e he rfl) _ G')
   refine J.inv.fac n φ hn ?_
   have hl:=g.len.2
   have hn' := nth_lt hn
   have hs:hasN (m.sf++sfD m.nv pl) n=false:=hs
   rw [hasN_app,Bool.or_eq_false_iff] at hs
   unfold visL
   by_cases hb:n<m.nv
   ·rw [show Nat.blt n m.nv=true by rw [Nat.blt_eq];exact hb,hs.1];rfl
   ·have hb' : Nat.blt n m.nv=false:=by cases e:Nat.blt n m.nv with|false=>rfl|true=>exact absurd (blt_lt e) hb
    obtain⟨j,hj⟩:=mkV_some pl m.nv (n-m.nv) 0 (by omega) (fun j r nk nv b st rs hj=>(H.fl hj).1) (by rw [show m.nv+(n-m.nv)=n by omega];exact hs.2)
    rw [hj,hb'];rfl
  ·cases hd⟩
end
end Go.Proofs.YtcdbmjnipaochaaGreat.Eng
namespace Go.Proofs.YtcdbmjnipaochaaGreat
open Go.RowKit Rgn
theorem zero_s(z:Cx):z.zero=((z.re.num.sign == 0)&&(z.im.num.sign == 0)):=by
 rw [Bool.eq_iff_iff,zero_iff,Bool.and_eq_true,sgn_iff,sgn_iff]
 exact⟨fun h=>by rw [h];exact⟨rfl,rfl⟩,fun h=>Cx.ext' h.1 h.2⟩
theorem zero_T{z:Cx}(h:(z.re.num.sign == 0)=true):Value.bool (z.im.num.sign == 0)=.bool z.zero:=by rw [zero_s,h];rfl
theorem zero_F{z:Cx}(h:(z.re.num.sign == 0)=false):Value.bool false=.bool z.zero:=by rw [zero_s,h];rfl
namespace Eng
theorem retZ{P:Program}{f:FuncId}{args:Array Value}{W:World}{φ:VP}{S:Nat→Prop}(h:Calls P f args W (Ret φ Z0 W)):Calls P f args W (Ret φ S W) :=
 h.mono fun e w' ⟨v,h1,h2,h3⟩=>⟨v,h1,φ.mono (fun k _ hk=>hk.elim (fun hk=>absurd hk id) .inr) h2,h3⟩
theorem VPe{α:Type}{φ:α→VP}{a b:α}{S:Nat→Prop}{v:Value}{w:World}(e:a=b)(h:(φ a).p S v w):(φ b).p S v w:=e ▸ h
theorem ex_icmp{P:Program}(op:BinOp)(t:TypeId)(n k:Int){b:Bool}(hb:cmpB op n k=some b){kk:IntKind}{ρ:Operand→Value}{o:Oper}{w:World}{x y:Operand}{t': TypeId}(ho:o.op=.binOp op t x y t')(hx:ρ x=.int kk n)(hy:ρ y=.int kk k):(execOp ρ o).run P w=.ok (.value (.bool b)) w:=by
 unfold execOp
 cases op<;>first|(cases hb;done)|(simp only [cmpB,Option.some.injEq] at hb;subst hb;simp [ho,hx,hy,eqGuard,binOp,Op.intCmp,Result.andThen])
theorem spNumC{z:Cx}(b:Bool):Split (VP.tup (NumP z) (VP.is (.bool b))) (.tup [.agg (vs 0 2),.o (.c (.bool b))]) [] [RatN z.re,RatN z.im]:=Split.of fun⟨x,y,e,⟨x1,x2,e', h1,h2⟩,g⟩ =>
 ⟨[x1,x2],⟨⟨VP1.ratn h1,h1⟩,⟨VP1.ratn h2,h2⟩,trivial⟩,fun _=>by subst e';have g:y=.bool b:=g;subst g;exact e⟩
theorem spRingC{c:Ci}(b:Bool):Split (VP.tup (RingP c) (VP.is (.bool b))) (.tup [.agg (vs 0 4),.o (.c (.bool b))]) [] [RatP c.a,RatN c.b.re,RatN c.b.im,RatP c.c]:=Split.of fun⟨x,y,e,⟨x1,x2,x3,x4,e', h1,h2,h3,h4⟩,g⟩ =>
 ⟨[x1,x2,x3,x4],⟨⟨VP1.rat h1,h1⟩,⟨VP1.ratn h2,h2⟩,⟨VP1.ratn h3,h3⟩,⟨VP1.rat h4,h4⟩,trivial⟩,fun _=>by subst e';have g:y=.bool b:=g;subst g;exact e⟩
theorem spRatN{q:Rat}:Split (RatN q) (.s (.o (.v 0))) [] [RatN q]:=Split.of fun {S v w} h=>⟨[v],⟨⟨VP1.ratn h,h⟩,trivial⟩,fun _=>rfl⟩
theorem ratsCells2{x y:Rat}{S:Nat→Prop}{W:World}{v:Value}(t:(RatsP [x,y]).p S v W):∃ b ys,v=rowV b (some 2)∧W.heap[b]? = some (.cells ⟨ys⟩ 143 (0,0))∧AllF (Amb S W) W ys [RatP x,RatP y]:=by
 obtain⟨b,b1,b2,rfl,B,k1,k2,h1,h2⟩:=RatsP.elim2 t
 exact⟨b,[pt b1,pt b2],rfl,B,⟨rfl,(RatP x).amb (VP.at h1 k1)⟩,⟨rfl,(RatP y).amb (VP.at h2 k2)⟩,trivial⟩
section
variable {S:Nat→Prop} {W:World} {vs' : List Value} {svs:List SV} {bl:List Blk} {κ:List Value} {Φ:List VP}
theorem Pack.gv(pk:Pack S W vs' svs bl κ Φ){b:Nat}{ys:List Value}{φs:List VP}{T:TypeId}(B:W.heap[b]? = some (.cells ⟨ys⟩ T (0,0)))(V:Value)(sv:SV)(n:Nat)(hv:∀ β κ' ℓ,β bl.length=b→V=sv.d ⟨β,κ', ℓ⟩)(hF:AllF (Amb S W) W ys φs)(hn:φs.length=n:=by rfl)(h:packB svs bl κ.length Φ.length=true:=by kernel_rfl):Pack S W (vs'++[V]) (svs++[sv]) (bl++[⟨T,vs Φ.length n,false,none,false⟩]) κ (Φ++φs):=by
 obtain⟨xs,β,h0,h1,h2,h3,h4⟩:=pk.ex
 have g0:=hF.len
 have g1:=hF.one
 have g3:=hF.fac
 simp only [packB,Bool.and_eq_true] at h
 let β' : Nat→Nat:=fun i=>if i=bl.length then b else β i
 have s:Same bl.length κ.length Φ.length ⟨β,κ,kat xs⟩ ⟨β', κ,kat (xs++ys)⟩:=⟨fun i hi=>if_neg (Nat.ne_of_lt hi),fun n hn=>rfl,fun n hn=>kat_left _ _ _ (by omega)⟩
 have hb:β' bl.length=b:=if_pos rfl
 refine⟨xs++ys,β', by simp [h0,g0],fun n=>?_,?_,fun n ψ hn=>?_,fun i k hk=>?_⟩
 ·rcases kat_or xs ys n with e|⟨j,e⟩
  ·rw [e];exact h1 n
  ·rw [e];exact g1 j
 ·rw [List.map_append,SV.sameL s h.1,← h2]
  congr 1
  show [V]=[sv.d ⟨β', κ,kat (xs++ys)⟩]
  rw [hv β' κ _ hb]
 ·rcases Nat.lt_or_ge n Φ.length with hn'|hn'
  ·rw [nth_eq,List.getElem?_append_left hn'] at hn
   rw [kat_left _ _ _ (by omega)]
   exact h3 n ψ (by rw [nth_eq];exact hn)
  ·rw [nth_eq,List.getElem?_append_right hn'] at hn
   have e:kat (xs++ys) n=kat ys (n-Φ.length):=by
    rw [← kat_app xs ys (n-Φ.length)]
    congr 1
    omega
   rw [e]
   exact g3 _ ψ (by rw [nth_eq];exact hn)
 ·rcases nth_snoc hk with hk|⟨rfl,rfl⟩
  ·obtain⟨g,g'⟩:=h4 i k hk
   exact⟨g,by rw [show β' i=β i from if_neg (Nat.ne_of_lt (nth_lt hk))];exact g'.env (At.sameL s (List.all_eq_true.1 h.2 k (nth_mem hk)))⟩
  ·refine⟨⟨rfl,rfl,rfl⟩,HC.mk ?_ (headT_vs _ _)⟩
   rw [hb,B]
   have key:∀ (l:List Value) (x0:List Value),(vs x0.length l.length).map (At.d ⟨β', κ,kat (x0++l)⟩)=l:=by
    intro l
    induction l with
    | nil=>intro x0;rfl
    | cons x l ih =>
     intro x0
     have h5:=ih (x0++[x])
     rw [List.length_append,List.append_assoc] at h5
     simp only [List.length_cons,List.length_nil,Nat.zero_add,List.singleton_append] at h5
     show kat (x0++x::l) x0.length::(vs (x0.length+1) l.length).map _=x::l
     rw [h5]
     congr 1
     exact kat_app x0 (x::l) 0
   have k2:=key ys xs
   rw [h0] at k2
   rw [← hn,← g0,k2]
theorem Pack.bv(pk:Pack S W vs' svs bl κ Φ){b:Nat}{ys:List Value}{φs:List VP}{T:TypeId}(B:W.heap[b]? = some (.cells ⟨ys⟩ T (0,0)))(row:Option Nat)(n:Nat)(hF:AllF (Amb S W) W ys φs)(hn:φs.length=n:=by rfl)(h:packB svs bl κ.length Φ.length=true:=by kernel_rfl):Pack S W (vs'++[rowV b row]) (svs++[rowS bl.length row]) (bl++[⟨T,vs Φ.length n,false,none,false⟩]) κ (Φ++φs) :=
 pk.gv B (rowV b row) (rowS bl.length row) n (fun β κ' ℓ hb=>by cases row<;>simp [rowV,rowS,SV.d,S1.d,At.d,hb]) hF hn h
end
end Eng
end Go.Proofs.YtcdbmjnipaochaaGreat
namespace Go.Proofs.YtcdbmjnipaochaaGreat.Eng
open Go.RowKit Rgn
section
variable {P:Program} {S:Nat→Prop} {W:World} {κ κ' : List Value} {Φ Φ' : List VP} {Q:Exit→Act→World→Prop} {m m' : MS}
theorem Run.to(n:Nat)(R:Run P S W κ Φ Q (runM P n m)):Run P S W κ Φ Q m:=run_sound n R
theorem Run.lp(b:Code)(n:Nat)(R:Run P S W κ Φ Q { m with cur:=.code b,ks:=.kl b n::m.ks })(hc:m.cur=.code (.loop b):=by rfl):Run P S W κ Φ Q m:=⟨fun A E a w I G=>by
 rw [hc]
 exact⟨n+1,R.r A E a w I G⟩⟩
def frE(E:Env):List (Option SV)→List (Option SV)→List (Option Value)
 | [],_=>[]
 | o'::l', []=>(match o' with|some _=>some undef|none=>none)::frE E l' []
 | o'::l', o::l=>(match o' with|some _=>o.map (SV.d E)|none=>none)::frE E l' l
def dO(E:Env)(l:List (Option SV)):List (Option Value):=l.map (Option.map (SV.d E))
theorem frE_at{E E': Env}:∀ (l' l:List (Option SV)),l'.length=l.length→frE E l' l=dO E' l'→∀ t v', nth l' t=some (some v')→∃ v,nth l t=some (some v)∧v.d E=v'.d E'
 | [],_,_,_,t,v', h=>by cases t<;>cases h
 | o'::l', [],hl,_,_,_,_=>by simp at hl
 | o'::l', o::l,hl,he,0,v', h=>by
  have h:some o'=some (some v'):=h
  cases h
  have he:o.map (SV.d E)::frE E l' l=some (v'.d E')::dO E' l' := he
  have h1:o.map (SV.d E)=some (v'.d E'):=(List.cons.inj he).1
  cases o with
  | none=>cases h1
  | some v=>exact⟨v,rfl,Option.some.inj h1⟩
 | o'::l', o::l,hl,he,t+1,v', h=>by
  have he:_::frE E l' l=_::dO E' l' := he
  exact frE_at l' l (by simpa using hl) (List.cons.inj he).2 t v' h
structure BD where
 ty:TypeId
 own:Bool
 soft:Bool
 fact:Option Nat
 cells:List Value
 hd:Bool
def bD(E:Env)(rv:Nat→Nat)(k:Blk):BD:=⟨k.ty,k.own,k.soft,k.fact.map rv,match k.fact with|none=>k.cells.map (At.d E)|some _=>[],headT k.cells⟩
def blE(E:Env)(bl:List Blk)(rb:Nat→Nat):Nat→Nat→List (Option BD)
 | 0,_=>[]
 | n+1,i=>((nth bl (rb i)).map (bD E id))::blE E bl rb n (i+1)
theorem blE_at{E E': Env}{bl:List Blk}{rb rv:Nat→Nat}:∀ (l:List Blk) (i:Nat),blE E bl rb l.length i=l.map (fun k=>some (bD E' rv k))→∀ b k', nth l b=some k'→∃ k,nth bl (rb (i+b))=some k∧bD E id k=bD E' rv k'
 | [],_,_,b,k', h=>by cases b<;>cases h
 | x::l,i,he,0,k', h=>by
  have h:some x=some k' := h
  cases h
  have he:(nth bl (rb i)).map (bD E id)::blE E bl rb l.length (i+1)=some (bD E' rv x)::l.map (fun k=>some (bD E' rv k)):=he
  have h1:=(List.cons.inj he).1
  cases hk:nth bl (rb i) with
  | none=>rw [hk] at h1;cases h1
  | some k=>rw [hk] at h1;exact⟨k,rfl,Option.some.inj h1⟩
 | x::l,i,he,b+1,k', h=>by
  have he:(nth bl (rb i)).map (bD E id)::blE E bl rb l.length (i+1)=some (bD E' rv x)::l.map (fun k=>some (bD E' rv k)):=he
  have:=blE_at l (i+1) (List.cons.inj he).2 b k' h
  rwa [show i+1+b=i+(b+1) by omega] at this
def phE(Φ:List VP)(rv:Nat→Nat):Nat→Nat→List (Option VP)
 | 0,_=>[]
 | n+1,i=>nth Φ (rv i)::phE Φ rv n (i+1)
theorem phE_at{Φ:List VP}{rv:Nat→Nat}:∀ (l:List VP) (i:Nat),phE Φ rv l.length i=l.map some→∀ n φ,nth l n=some φ→nth Φ (rv (i+n))=some φ
 | [],_,_,n,φ,h=>by cases n<;>cases h
 | x::l,i,he,0,φ,h=>by
  have h:some x=some φ:=h
  cases h
  have he:nth Φ (rv i)::phE Φ rv l.length (i+1)=some x::l.map some:=he
  exact (List.cons.inj he).1
 | x::l,i,he,n+1,φ,h=>by
  have he:nth Φ (rv i)::phE Φ rv l.length (i+1)=some x::l.map some:=he
  have:=phE_at l (i+1) (List.cons.inj he).2 n φ h
  rwa [show i+1+n=i+(n+1) by omega] at this
def fcB(Φ': List VP)(m': MS):Bool:=m'.bl.all fun k=>match k.fact with|some n=>Nat.blt n Φ'.length|none=>true
def sfB(Φ': List VP)(m m': MS)(rv:Nat→Nat):Bool:=(List.range Φ'.length).all fun n=>hasN m'.sf n || !hasN m.sf (rv n)
def injB(m': MS)(rb:Nat→Nat):Bool:=(List.range m'.bl.length).all fun b=>(List.range m'.bl.length).all fun c=>Nat.beq b c || !Nat.beq (rb b) (rb c)
theorem Run.as(rv rb:Nat→Nat)(R:Run P S W κ' Φ' Q m')(hc:m'.cur=(runM P 0 m).cur:=by rfl)(hk:m'.ks=m.ks:=by rfl)(hdf:m'.df=m.df:=by kernel_rfl)(hl:m'.fr.length=m.fr.length:=by kernel_rfl)(hf:∀ β ℓ,frE ⟨β,κ,ℓ⟩ m'.fr m.fr=dO ⟨fun b=>β (rb b),κ', fun n=>ℓ (rv n)⟩ m'.fr:=by intro β ℓ;kernel_rfl)(hb:∀ β ℓ,blE ⟨β,κ,ℓ⟩ m.bl rb m'.bl.length 0=m'.bl.map (fun k=>some (bD ⟨fun b=>β (rb b),κ', fun n=>ℓ (rv n)⟩ rv k)):=by intro β ℓ;kernel_rfl)(hp:phE Φ rv Φ'.length 0=Φ'.map some:=by kernel_rfl)(hs:sfB Φ' m m' rv=true:=by kernel_rfl)(hi:injB m' rb=true:=by kernel_rfl)(hq:fcB Φ' m'=true:=by kernel_rfl)(ho:κ'.all (·.oneCell')=true:=by kernel_rfl):Run P S W κ Φ Q m:=⟨fun A E a w I G=>by
 obtain⟨β,κ1,ℓ⟩:=E
 have e:=I.ek
 simp only at e
 subst e
 have hF:=frE_at _ _ hl (hf β ℓ)
 have hB:=fun b k' h=>by have:=blE_at _ _ (hb β ℓ) b k' h;rwa [Nat.zero_add] at this
 have hP:=fun n φ h=>by have:=phE_at _ _ hp n φ h;rwa [Nat.zero_add] at this
 have hI:∀ b c k l,nth m'.bl b=some k→nth m'.bl c=some l→b≠c→rb b≠rb c:=fun b c k l h1 h2 hn e=>by
  have h3:=List.all_eq_true.1 (List.all_eq_true.1 hi b (List.mem_range.2 (nth_lt h1))) c (List.mem_range.2 (nth_lt h2))
  rw [Bool.or_eq_true,Bool.not_eq_true'] at h3
  rcases h3 with h3|h3
  ·exact hn (Nat.eq_of_beq_eq_true h3)
  ·rw [e] at h3;rw [show Nat.beq (rb c) (rb c)=true from Nat.beq_refl _] at h3;cases h3
 have I' : Inv A S W κ' Φ' ⟨fun b=>β (rb b),κ', fun n=>ℓ (rv n)⟩ m'.bl m'.sf w:=by
  refine⟨rfl,I.bel,?_,?_,?_,?_,?_,fun n=>I.ol _,kat_all ho,?_,I.up,?_,?_,?_⟩
  ·intro b k' h
   obtain⟨k,h1,_⟩:=hB b k' h
   exact I.lt _ k h1
  ·intro b k' h hn
   obtain⟨k,h1,h2⟩:=hB b k' h
   have q1:=congrArg BD.fact h2
   have q2:=congrArg BD.cells h2
   have q3:=congrArg BD.ty h2
   have hn' : k.fact=none:=by
    have:k.fact.map id=k'.fact.map rv:=q1
    rw [hn] at this;cases hk2:k.fact with|none=>rfl|some x=>rw [hk2] at this;cases this
   have h4:=I.blk _ k h1 hn'
   have q6:headT k.cells=headT k'.cells:=congrArg BD.hd h2
   have q4:k.cells.map (At.d ⟨β,κ1,ℓ⟩)=k'.cells.map (At.d ⟨fun b=>β (rb b),κ', fun n=>ℓ (rv n)⟩):=by
    have:(match k.fact with|none=>k.cells.map (At.d ⟨β,κ1,ℓ⟩)|some _=>[])=(match k'.fact with|none=>k'.cells.map (At.d ⟨fun b=>β (rb b),κ', fun n=>ℓ (rv n)⟩)|some _=>[]):=q2
    rw [hn,hn'] at this;exact this
   have q5:k.ty=k'.ty:=q3
   rw [← q5];exact h4.as q4 q6
  ·intro b k' h hw
   obtain⟨k,h1,h2⟩:=hB b k' h
   exact I.own _ k h1 ((congrArg BD.own h2:k.own=k'.own).trans hw)
  ·intro b k' h hw
   obtain⟨k,h1,h2⟩:=hB b k' h
   exact I.old _ k h1 ((congrArg BD.own h2:k.own=k'.own).trans hw)
  ·intro b c k' l' h h' hw hw' hn
   obtain⟨k,h1,h2⟩:=hB b k' h
   obtain⟨l,h3,h4⟩:=hB c l' h'
   exact I.inj _ _ k l h1 h3 ((congrArg BD.own h2:k.own=k'.own).trans hw) ((congrArg BD.own h4:l.own=l'.own).trans hw') (hI b c k' l' h h' hn)
  ·intro n φ h hn
   refine I.fac (rv n) φ (hP n φ h) ?_
   have h3:=List.all_eq_true.1 hs n (List.mem_range.2 (nth_lt h))
   rw [hn,Bool.false_or,Bool.not_eq_true'] at h3
   exact h3
  ·intro b k' h hw hs
   obtain⟨k,h1,h2⟩:=hB b k' h
   exact I.se _ k h1 ((congrArg BD.own h2:k.own=k'.own).trans hw) ((congrArg BD.soft h2:k.soft=k'.soft).trans hs)
  ·intro b k' h hs
   obtain⟨k,h1,h2⟩:=hB b k' h
   have q:k.own=k'.own:=congrArg BD.own h2
   rw [← q]
   exact I.so _ k h1 ((congrArg BD.soft h2:k.soft=k'.soft).trans hs)
  ·intro b k' n h hn
   obtain⟨k,h1,h2⟩:=hB b k' h
   have q:k.own=k'.own:=congrArg BD.own h2
   have q1:k.fact.map id=k'.fact.map rv:=congrArg BD.fact h2
   rw [hn] at q1
   have q2:k.fact=some (rv n):=by simpa using q1
   obtain⟨g1,g2,φ,g3,g4⟩:=I.sof _ k _ h1 q2
   rw [← q]
   have q3:Nat.blt n Φ'.length=true:=by
    have:=List.all_eq_true.1 hq k' (nth_mem h)
    rw [hn] at this;exact this
   obtain⟨ψ,hψ⟩:∃ ψ,nth Φ' n=some ψ:=nth_some_of_lt (blt_lt q3)
   have q4:=hP n ψ hψ
   rw [g3] at q4
   rw [Option.some.inj q4] at g4
   exact⟨g1,g2,ψ,hψ,g4⟩
 have G' : AgF m'.df ⟨fun b=>β (rb b),κ', fun n=>ℓ (rv n)⟩ m'.fr a:=⟨G.nd.trans hdf.symm,by rw [hl];exact G.sz,fun t v' h=>by
  obtain⟨v,h1,h2⟩:=hF t v' h
  rw [G.at_ t v h1,h2]⟩
 have r:=R.r A _ a w I' G'
 have hc' : m'.cur=m.cur:=hc
 rw [hc', hk] at r
 exact r⟩
def aftN(T:TypeId)(m:MS):MS :=
 match m.cur with
 | .ops all (o::rest)=>{ m with cur:=.ops all rest,fr:=putF m.fr o.dst (some (.s (.o (.p m.bl.length 0)))),bl:=m.bl++[⟨T,[],true,some m.nv,true⟩],nv:=m.nv+1,sf:=m.nv::m.sf }
 | _=>m
def OwnV(φ:VP):Prop:=∀ {T:Nat→Prop} {v:Value} {w:World},φ.p T v w→∃ b,v=.pointer (some ⟨b,0,none⟩)∧T b∧b<w.heap.size∧φ.p (·=b) v w
theorem Inv.new{A:Nat→Prop}{E:Env}{w w': World}{φ:VP}{z:Nat}{T:TypeId}(I:Inv A S W κ Φ E m.bl m.sf w)(hf:fitB m κ Φ=true)(hb:Below w.heap.size w w')(hz:w.heap.size≤z)(hl:z<w'.heap.size)(hp:φ.p (·=z) (.pointer (some ⟨z,0,none⟩)) w')(hS:Soft w' z):let E' : Env:=⟨fun b=>if b=m.bl.length then z else E.β b,E.κ,fun n=>if n<m.nv then E.ℓ n else .pointer none⟩
  Inv (fun k=>A k∧k≠z) S W κ (Φ++[φ]) E' (m.bl++[⟨T,[],true,some m.nv,true⟩]) (m.nv::m.sf) w'∧Same m.bl.length m.nk m.nv E E' := by
 intro E'
 have s:Same m.bl.length m.nk m.nv E E' := ⟨fun b hb=>if_neg (Nat.ne_of_lt hb),fun _ _=>rfl,fun n hn=>if_pos hn⟩
 simp only [fitB,MS.okB,Bool.and_eq_true] at hf
 obtain⟨⟨⟨f0,f1⟩,f2⟩,f3⟩:=hf
 have f3:=Nat.eq_of_beq_eq_true f3
 have hβ:∀ b k,nth m.bl b=some k→E'.β b=E.β b:=fun b k h=>s.b b (nth_lt h)
 have hn:E'.β m.bl.length=z:=if_pos rfl
 refine⟨⟨I.ek,I.bel.trans ⟨hb.os,hb.tape,hb.output,hb.size,fun k hk=>hb.block k (Nat.lt_of_lt_of_le hk I.bel.size)⟩,?_,?_,?_,?_,?_,?_,I.ok,?_,fun k hk=>I.up k hk.1,?_,?_,?_⟩,s⟩
 ·intro b k h
  rcases nth_snoc h with h|⟨rfl,rfl⟩
  ·rw [hβ b k h];exact Nat.lt_of_lt_of_le (I.lt b k h) hb.size
  ·rw [hn];exact hl
 ·intro b k h hf
  rcases nth_snoc h with h|⟨rfl,rfl⟩
  ·rw [hβ b k h,hb.block _ (I.lt b k h)]
   exact (I.blk b k h hf).env (At.sameL s (List.all_eq_true.1 f1 k (nth_mem h)))
  ·cases hf
 ·intro b k h hown
  rcases nth_snoc h with h|⟨rfl,rfl⟩
  ·rw [hβ b k h];exact I.own b k h hown
  ·rw [hn];exact Nat.le_trans I.bel.size hz
 ·intro b k h hown
  rcases nth_snoc h with h|⟨rfl,rfl⟩
  ·rw [hβ b k h];exact I.old b k h hown
  ·cases hown
 ·intro b c k l h g ho1 ho2 hne
  rcases nth_snoc h with h|⟨rfl,rfl⟩
  ·rcases nth_snoc g with g|⟨rfl,rfl⟩
   ·rw [hβ b k h,hβ c l g];exact I.inj b c k l h g ho1 ho2 hne
   ·rw [hβ b k h,hn];exact Nat.ne_of_lt (Nat.lt_of_lt_of_le (I.lt b k h) hz)
  ·rcases nth_snoc g with g|⟨rfl,rfl⟩
   ·rw [hβ c l g,hn];exact (Nat.ne_of_lt (Nat.lt_of_lt_of_le (I.lt c l g) hz)).symm
   ·exact absurd rfl hne
 ·intro n
  show (if n<m.nv then E.ℓ n else .pointer none).oneCell'=true
  split
  ·exact I.ol n
  ·rfl
 ·intro n ψ h hs
  have hs:(Nat.beq m.nv n||hasN m.sf n)=false:=hs
  rw [Bool.or_eq_false_iff] at hs
  have hne:n≠m.nv:=fun e=>by rw [e,show Nat.beq m.nv m.nv=true from Nat.beq_refl _] at hs;cases hs.1
  rcases nth_snoc h with h|⟨rfl,rfl⟩
  ·have hlt:=nth_lt h
   show ψ.p _ (if n<m.nv then E.ℓ n else .pointer none) w'
   rw [if_pos (by omega)]
   exact ψ.grow (GrowS.below hb) (ψ.mono (fun k hk ha=>⟨ha,Nat.ne_of_lt (Nat.lt_of_lt_of_le hk hz)⟩) (I.fac n ψ h hs.2))
  ·exact absurd f3.symm hne
 ·intro b k h ho hs
  rcases nth_snoc h with h|⟨rfl,rfl⟩
  ·rw [hβ b k h];exact⟨I.se b k h ho hs,Nat.ne_of_lt (Nat.lt_of_lt_of_le (I.lt b k h) hz)⟩
  ·cases hs
 ·intro b k h hs
  rcases nth_snoc h with h|⟨rfl,rfl⟩
  ·obtain⟨g1,g2,g3⟩:=I.so b k h hs
   rw [hβ b k h]
   exact⟨g1,fun e=>g2 e.1,Soft.keep g3 (hb.block _ (I.lt b k h))⟩
  ·rw [hn];exact⟨rfl,fun e=>e.2 rfl,hS⟩
 ·intro b k n h hfn
  rcases nth_snoc h with h|⟨rfl,rfl⟩
  ·obtain⟨g1,g2,ψ,g3,g4⟩:=I.sof b k n h hfn
   rw [hβ b k h]
   exact⟨g1,Soft.keep g2 (hb.block _ (I.lt b k h)),ψ,by rw [nth_eq] at g3 ⊢;rw [List.getElem?_append_left (List.getElem?_eq_some_iff.1 g3).1];exact g3,ψ.grow (GrowS.below hb) g4⟩
  ·have e:m.nv=n:=Option.some.inj hfn
   subst e
   rw [hn]
   exact⟨rfl,hS,φ,by rw [nth_eq,f3,List.getElem?_append_right (Nat.le_refl _)];simp,hp⟩
theorem Run.cN{f:FuncId}{args:(Nat→Nat)→(Nat→Value)→Array Value}{φ:VP}(T:TypeId)(hφ:SoftV φ)(hO:OwnV φ)(hc:∀ {A:Nat→Prop} β ℓ w,Inv A S W κ Φ ⟨β,κ,ℓ⟩ (runM P far m).bl (runM P far m).sf w→Calls P f (args β ℓ) w (Ret φ (fun _=>False) w))(rest:Run P S W κ (Φ++[φ]) Q (aftN T (runM P far m)))(ha:∀ β ℓ,argsOf P (runM P far m) ⟨β,κ,ℓ⟩=some (f,(args β ℓ).toList):=by intro β ℓ;kernel_rfl)(hf:fitB (runM P far m) κ Φ=true:=by kernel_rfl):Run P S W κ Φ Q m :=
 run_sound far <| Run.mk fun A0 E a w I G=>by
  obtain⟨β,κ', ℓ⟩:=E
  have e:=I.ek
  simp only at e
  subst e
  generalize hm:runM P far m=n at *
  obtain⟨o,all,rst,hcur,hg,hx⟩:=call_enter (w:=w) (ha β ℓ) G
  have hn' : aftN T n={ n with cur:=.ops all rst,fr:=putF n.fr o.dst (some (.s (.o (.p n.bl.length 0)))),bl:=n.bl++[⟨T,[],true,some n.nv,true⟩],nv:=n.nv+1,sf:=n.nv::n.sf }:=by unfold aftN;rw [hcur]
  rw [hn'] at rest
  rw [den_op hcur]
  refine wpList_step fun K hK=>?_
  rw [if_pos hg]
  simp only [Oper.wp,hx,Oper.upon]
  refine (hc β ℓ w I).mono fun e w' hr=>?_
  obtain⟨v,rfl,h1,h2⟩:=hr
  obtain⟨z,rfl,k1,k2,k3⟩:=hO h1
  have hz:w.heap.size≤z:=k1.resolve_left id
  obtain⟨I', sm⟩:=I.new (T:=T) hf h2 hz k2 k3 (hφ k3)
  have hf' := hf
  simp only [fitB,MS.okB,Bool.and_eq_true] at hf'
  have G' := G.same sm hf'.1.1.1
  have e2:(SV.s (.o (.p n.bl.length 0))).d ⟨fun b=>if b=n.bl.length then z else β b,κ', fun q=>if q<n.nv then ℓ q else .pointer none⟩=.pointer (some ⟨z,0,none⟩):=by
   show Value.pointer (some ⟨if n.bl.length=n.bl.length then z else _,0,none⟩)=_
   rw [if_pos rfl]
  have G2:=put_v G' o.dst (.s (.o (.p n.bl.length 0)))
  rw [e2] at G2
  exact hK _ _ (rest.r _ _ _ w' I' G2)
theorem ownRat{q:Rat}:OwnV (RatP q):=fun h=>by
 obtain⟨b,rfl,h1,h2⟩:=RatP.elim h
 exact⟨b,rfl,h1,RatP.lt h2,h2⟩
theorem ex_iadd{k:IntKind}{n u:Int}(hw:k.wrap (n+u)=n+u){ρ:Operand→Value}{o:Oper}{w:World}{x y:Operand}{t t': TypeId}(ho:o.op=.binOp .add t x y t')(hx:ρ x=.int k n)(hy:ρ y=.int k u):(execOp ρ o).run P w=.ok (.value (.int k (n+u))) w:=by
 unfold execOp;simp [ho,hx,hy,eqGuard,binOp,Op.intArith,hw,Result.andThen]
end
end Go.Proofs.YtcdbmjnipaochaaGreat.Eng
namespace Go.Proofs.YtcdbmjnipaochaaGreat.Eng
open Go.RowKit Rgn
section
variable {P:Program} {S:Nat→Prop} {W:World} {κ:List Value} {Φ:List VP} {Q:Exit→Act→World→Prop} {m:MS} {vs:List Value} {svs:List SV} {bl:List Blk}
end
def dstsL:List Oper→List Nat
 | []=>[]
 | o::l=>match o.dst with|some t=>t::dstsL l|none=>dstsL l
section
variable {P:Program} {D:List Nat} {a0:Act}
end
section
variable {P:Program} {S:Nat→Prop} {W:World} {κ:List Value} {Φ:List VP} {Q:Exit→Act→World→Prop} {m:MS}
theorem Run.q(e:Exit)(h:∀ {A:Nat→Prop} β ℓ a w,Inv A S W κ Φ ⟨β,κ,ℓ⟩ (runM P far m).bl (runM P far m).sf w→AgF (runM P far m).df ⟨β,κ,ℓ⟩ (runM P far m).fr a→Q e a w)(hc:(runM P far m).cur=.ex e:=by kernel_rfl)(hk:(runM P far m).ks=[]:=by kernel_rfl):Run P S W κ Φ Q m :=
 run_sound far <| Run.mk fun A0 E a w I G=>by
  obtain⟨β,κ', ℓ⟩:=E
  have e:=I.ek
  simp only at e
  subst e
  rw [hc,hk]
  exact h β ℓ a w I G
def clearL(D:List Nat):Nat→List (Option SV)→List (Option SV)
 | _,[]=>[]
 | i,o::l=>(if hasN D i then none else o)::clearL D (i+1) l
def skipD(m:MS):MS:=match m.cur with
 | .code (.region _ ops true)=>{ m with cur:=.ex .normal,fr:=clearL (dstsL ops.toList) 0 m.fr }
 | _=>m
def skipC(m:MS):MS:=match m.cur with
 | .code (.cond _ _ e)=>{ m with cur:=.code e }
 | _=>m
theorem Run.cut(k:Nat)(h1:Run P S W κ Φ Q (skipC (runM P k (skipD (runM P far m)))))(h2:Run P S W κ Φ Q (skipC (runM P k (skipD (runM P far m))))→Run P S W κ Φ Q m):Run P S W κ Φ Q m:=h2 h1
theorem Run.rf{g:Operand}{ps:Array Tmp}{x y:Code}{id:Nat}{c:Code}(h:∀ {A:Nat→Prop} β ℓ a w,Inv A S W κ Φ ⟨β,κ,ℓ⟩ (runM P far m).bl (runM P far m).sf w→AgF (runM P far m).df ⟨β,κ,ℓ⟩ (runM P far m).fr a→β 0<W.heap.size→(Code.rangeFunc g ps x y).wp P (Exit.inBlock id (Exit.then (wsC P c Q) Q)) a w)(hc:(runM P far m).cur=.code (.rangeFunc g ps x y):=by kernel_rfl)(hk:(runM P far m).ks=[.kb id,.kc c]:=by kernel_rfl)(ho:(nth (runM P far m).bl 0).map (·.own)=some false:=by kernel_rfl):Run P S W κ Φ Q m :=
 run_sound far <| Run.mk fun A0 E a w I G=>by
  obtain⟨β,κ', ℓ⟩:=E
  have e:=I.ek
  simp only at e
  subst e
  obtain⟨k,h1,h2⟩:=Option.map_eq_some_iff.1 ho
  rw [hc,hk]
  exact h β ℓ a w I G (I.old 0 k h1 h2)
theorem AgF.at{D:List Deferred}{E:Env}{fr:List (Option SV)}{a:Act}(G:AgF D E fr a)(t:Nat){v:Value}(h:((nth fr t).bind id).map (SV.d E)=some v:=by kernel_rfl):a.tmps.getD t undef=v:=by
 cases hn:nth fr t with
 | none=>rw [hn] at h;cases h
 | some o=>cases o with
  | none=>rw [hn] at h;cases h
  | some u=>rw [hn] at h;exact (G.at_ t u hn).trans (Option.some.inj h)
theorem Inv.ne{A:Nat→Prop}{sf:List Nat}{w:World}{E:Env}{bl:List Blk}(I:Inv A S W κ Φ E bl sf w)(n k:Nat)(h:((nth bl n).map (·.own),(nth bl k).map (·.own))=(some true,some true):=by kernel_rfl)(hn:n≠k:=by decide):E.β n≠E.β k:=by
 have h3:(nth bl n).map (·.own)=some true:=congrArg Prod.fst h
 have h4:(nth bl k).map (·.own)=some true:=congrArg Prod.snd h
 obtain⟨x,h1,h3⟩:=Option.map_eq_some_iff.1 h3
 obtain⟨y,h2,h4⟩:=Option.map_eq_some_iff.1 h4
 exact I.inj n k x y h1 h2 h3 h4 hn
end
section
variable {P:Program} {S:Nat→Prop} {W:World} {κ:List Value} {Φ φs:List VP} {Q:Exit→Act→World→Prop} {m:MS}
abbrev mkT:At:=.c (.tuple #[])
theorem Inv.addB{A:Nat→Prop}{E:Env}{w:World}{bl:List Blk}{sf:List Nat}{b nb nk nv:Nat}{T:TypeId}{cs:List At}(I:Inv A S W κ Φ E bl sf w)(hn:bl.length=nb)(hok:bl.all (fun k=>k.cells.all (At.okB nb nk nv))=true)(hcs:cs.all (At.okB nb nk nv)=true)(hb:W.heap.size≤b)(hlt:b<w.heap.size)(hA:A b)(hnew:∀ c k,nth bl c=some k→E.β c≠b)(hB:HC E cs T w.heap[b]?):let E' : Env:=⟨fun c=>if c=nb then b else E.β c,E.κ,E.ℓ⟩
  Inv A S W κ Φ E' (bl++[⟨T,cs,true,none,false⟩]) sf w∧Same nb nk nv E E' := by
 intro E'
 subst hn
 have s:Same bl.length nk nv E E' := ⟨fun c hc=>if_neg (Nat.ne_of_lt hc),fun _ _=>rfl,fun _ _=>rfl⟩
 have hβ:∀ c k,nth bl c=some k→E'.β c=E.β c:=fun c k h=>s.b c (nth_lt h)
 have hnb:E'.β bl.length=b:=if_pos rfl
 refine⟨⟨I.ek,I.bel,?_,?_,?_,?_,?_,I.ol,I.ok,I.fac,I.up,?_,?_,?_⟩,s⟩
 ·intro c k h
  rcases nth_snoc h with h|⟨rfl,rfl⟩
  ·rw [hβ c k h];exact I.lt c k h
  ·rw [hnb];exact hlt
 ·intro c k h hf
  rcases nth_snoc h with h|⟨rfl,rfl⟩
  ·rw [hβ c k h];exact (I.blk c k h hf).env (At.sameL s (List.all_eq_true.1 hok k (nth_mem h)))
  ·rw [hnb];exact hB.env (At.sameL s hcs)
 ·intro c k h ho
  rcases nth_snoc h with h|⟨rfl,rfl⟩
  ·rw [hβ c k h];exact I.own c k h ho
  ·rw [hnb];exact hb
 ·intro c k h ho
  rcases nth_snoc h with h|⟨rfl,rfl⟩
  ·rw [hβ c k h];exact I.old c k h ho
  ·cases ho
 ·intro c d k l h g ho1 ho2 hne
  rcases nth_snoc h with h|⟨rfl,rfl⟩
  ·rcases nth_snoc g with g|⟨rfl,rfl⟩
   ·rw [hβ c k h,hβ d l g];exact I.inj c d k l h g ho1 ho2 hne
   ·rw [hβ c k h,hnb];exact hnew c k h
  ·rcases nth_snoc g with g|⟨rfl,rfl⟩
   ·rw [hβ d l g,hnb];exact (hnew d l g).symm
   ·exact absurd rfl hne
 ·intro c k h ho hs
  rcases nth_snoc h with h|⟨rfl,rfl⟩
  ·rw [hβ c k h];exact I.se c k h ho hs
  ·rw [hnb];exact hA
 ·intro c k h hs
  rcases nth_snoc h with h|⟨rfl,rfl⟩
  ·rw [hβ c k h];exact I.so c k h hs
  ·cases hs
 ·intro c k n h hf
  rcases nth_snoc h with h|⟨rfl,rfl⟩
  ·rw [hβ c k h];exact I.sof c k n h hf
  ·cases hf
end
end Go.Proofs.YtcdbmjnipaochaaGreat.Eng
namespace Go.Proofs.YtcdbmjnipaochaaGreat
open Go.RowKit Rgn
section
variable {P:Program} {ρ:Operand→Value} {o:Oper} {w:World} {x y:Operand}
theorem x_pnE{t r:TypeId}{b:Nat}(hx:ρ x=pt b)(hy:ρ y=.pointer none)(ho:o.op=.binOp .eql t x y r:=by rfl)(he:(Op.equal t (pt b) (.pointer none)).run P w=.ok false w:=by kernel_rfl):(execOp ρ o).run P w=.ok (.value (.bool false)) w:=by
 unfold execOp;simp [ho,hx,hy,eqGuard,binOp,he,Result.andThen]
theorem x_pnN{t r:TypeId}{b:Nat}(hx:ρ x=pt b)(hy:ρ y=.pointer none)(ho:o.op=.binOp .neq t x y r:=by rfl)(he:(Op.equal t (pt b) (.pointer none)).run P w=.ok false w:=by kernel_rfl):(execOp ρ o).run P w=.ok (.value (.bool true)) w:=by
 unfold execOp;simp [ho,hx,hy,eqGuard,binOp,he,Result.andThen]
end
theorem eFormed{W:World}(r:RW):Calls Tryz.prog 250 #[.agg #[.bool r.n,.string r.s]] W (RetV (.bool (wformed r)) W):=by
 obtain⟨n,⟨⟨l⟩⟩⟩:=r
 have hb:Below W.heap.size W (W.alloc (.cells #[.bool n,.string ⟨⟨l⟩⟩] 23)):=Below.alloc (Below.refl _ _) (Nat.le_refl _) _
 cases l with
 | nil =>
  go_enter Tryz.func250,Tryz.ntmps250
  go_wp2_with fail
  refine ret_ok rfl (by exact results_tmp' rfl rfl) (RetV.mk ?_ hb)
  rfl
 | cons c t =>
  go_enter Tryz.func250,Tryz.ntmps250
  go_wp2_with fail
  refine ret_ok rfl (by exact results_tmp' rfl rfl) (RetV.mk ?_ hb)
  refine congrArg (fun b=>Ending.returned (.bool b)) ?_
  show ((c.toNat:Int) != 0)=(c != 0)
  by_cases h:c=0
  ·subst h;rfl
  ·have h2:c.toNat≠0:=fun e=>h (UInt8.toNat_inj.1 e)
   rw [bne_iff_ne.2 h,bne_iff_ne];omega
theorem eRatN{S:Nat→Prop}{W:World}:Calls Tryz.prog 224 #[.pointer none] W (Ret (RatP 0) S W):=by
 go_enter Tryz.func224,Tryz.ntmps224
 go_wp2_with fail
 refine ret_ok rfl (by exact results_tmp' rfl rfl) ⟨_,rfl,⟨_,rfl,.inr (Nat.le_refl _),.inr ⟨rfl,heap_alloc_new W _⟩⟩,Below.alloc (Below.refl _ _) (Nat.le_refl _) _⟩
theorem ecut_yes{q:Rat}(h:fits (rf q)=true):Value.tuple #[.agg #[.bool (decide (q.num.sign<0)),.string (bS q.num.natAbs),.bool false,.string (bS (q.den:Int).natAbs)],.int .i64 0]=.tuple #[rfV (fcut q),.int .i64 (ferr q)]:=by
 rw [sign_lt]
 refine Eq.trans ?_ (fcut_yes h)
 rw [decide_eq_false (show ¬ (q.den:Int)<0 by omega)]
theorem den_nn(x:Rat):decide ((x.den:Int)<0)=false:=decide_eq_false (by omega)
theorem den_na(x:Rat):decide ((x.den:Int).natAbs=0)=false:=decide_eq_false (by have:=x.den_pos;omega)
theorem fits_two{x:Rat}(h:fits (rf x)=true):(bS x.num.natAbs).size≤1024∧(bS (x.den:Int).natAbs).size≤1024:=by
 unfold fits at h
 rw [Bool.and_eq_true,decide_eq_true_eq,decide_eq_true_eq] at h
 exact h
theorem icmp_self(x:Int):icmp x x=0:=by unfold icmp;simp
theorem back_num(x:Rat):((icmp ((Rat.divInt x.num (x.den:Int)).num) x.num) != 0)=false:=by rw [Rat.num_divInt_den,icmp_self];rfl
theorem back_den(x:Rat):((icmp ((Rat.divInt x.num (x.den:Int)).den:Int) (x.den:Int)) != 0)=false:=by rw [Rat.num_divInt_den,icmp_self];rfl
theorem bS_len(n:Nat):(bS n).size=(bytesOf n).length:=by show (bytesOf n).toArray.size=_;simp
theorem efits_le{q:Rat}(h:fits (rf q)=true):ht q≤8200:=by
 have h0:=fits_two h
 have h1:=hi_bytes q.num
 have h2:=hi_bytes (q.den:Int)
 have h3:(rw q.num).s.size≤1024:=h0.1
 have h4:(rw (q.den:Int)).s.size≤1024:=h0.2
 have h5:hi (q.den:Int)=bl q.den+1:=by unfold hi;rw [Int.natAbs_natCast]
 have h6:hi q.num=bl q.num.natAbs+1:=rfl
 have h7:ht q=max (bl q.num.natAbs) (bl q.den)+1:=rfl
 omega
theorem divInt_one(x:Int):Rat.divInt x 1=(x:Rat):=by
 have h:=Rat.num_divInt_den (x:Rat)
 rw [Rat.num_intCast,Rat.den_intCast] at h
 exact h
theorem num_int(m n:Int):(⟨Rat.divInt m 1,Rat.divInt n 1⟩:Cx)=Cx.ofInt m n:=Cx.ext' (divInt_one m) (divInt_one n)
end Go.Proofs.YtcdbmjnipaochaaGreat
namespace Go.Proofs.YtcdbmjnipaochaaGreat.Eng
open Go.RowKit Rgn
section
variable {P:Program} {S:Nat→Prop} {W:World} {κ:List Value} {Φ:List VP} {Q:Exit→Act→World→Prop} {m:MS}
theorem Run.np(i:Nat)(q:Rat)(t:TypeId)(op:BinOp)(b:Bool)(hop:(op=.eql∧b=false)∨(op=.neq∧b=true))(he:∀ c w,(Op.equal t (pt c) (.pointer none)).run P w=.ok false w)(rest:Run P S W (κ++[]) (Φ++[]) Q (aft (runM P far m) (cb b) 0 0))(hq:nth Φ i=some (RatP q):=by kernel_rfl)(hs:hasN (runM P far m).sf i=false:=by kernel_rfl)(ha:∀ β ℓ,((opOf (runM P far m)).bind (binOf (runM P far m).fr)).map (fun q=>(q.1,q.2.1,q.2.2.1.d ⟨β,κ,ℓ⟩,q.2.2.2.d ⟨β,κ,ℓ⟩))=some (op,t,ℓ i,.pointer none):=by intro β ℓ;kernel_rfl)(hf:fitB (runM P far m) κ Φ=true:=by kernel_rfl):Run P S W κ Φ Q m:=by
 refine Run.va (V:=.bool b) [] (cb b) (a:=fun o β ℓ ρ=>∃ x y t', o.op=.binOp op t x y t'∧ρ x=ℓ i∧ρ y=.pointer none) (fun {A} β ℓ w o ρ I hp=>?_) rest (fun β ℓ a A=>?_) (fun _ _=>rfl) rfl hf rfl
 ·obtain⟨x,y,t', h1,h2,h3⟩:=hp
  have hv:(RatP q).p A (ℓ i) w:=I.fac i _ hq hs
  obtain⟨c,hc,_⟩:=RatP.elim hv
  rw [hc] at h2
  rcases hop with⟨rfl,rfl⟩|⟨rfl,rfl⟩
  ·exact x_pnE h2 h3 h1 (he c w)
  ·exact x_pnN h2 h3 h1 (he c w)
 ·have ha:=ha β ℓ
  cases ho:opOf (runM P far m) with
  | none=>rw [ho] at ha;cases ha
  | some o =>
   rw [ho] at ha
   refine⟨o,rfl,?_⟩
   have ha:(binOf (runM P far m).fr o).map _=some _:=ha
   unfold binOf at ha
   split at ha
   ·rename_i op' t0 x y t' hop'
    split at ha
    ·rename_i v u hx hy
     simp only [Option.map_some,Option.some.injEq,Prod.mk.injEq] at ha
     obtain⟨rfl,rfl,e1,e2⟩:=ha
     exact⟨x,y,t', hop', (eval_eo A x v hx).trans e1,(eval_eo A y u hy).trans e2⟩
    ·cases ha
   ·cases ha
theorem dT{p:Prop}[Decidable p](h:p):some (decide p)=some true:=congrArg some (decide_eq_true h)
theorem dF{p:Prop}[Decidable p](h:¬ p):some (decide p)=some false:=congrArg some (decide_eq_false h)
theorem Run.ik(op:BinOp)(n z:Int)(b:Bool)(h:cmpB op n z=some b)(rest:Run P S W (κ++[]) (Φ++[]) Q (aft (runM P far m) (cb b) 0 0))(ha:∀ β ℓ,((opOf (runM P far m)).bind (binOf (runM P far m).fr)).map (fun q=>(q.1,q.2.2.1.d ⟨β,κ,ℓ⟩,q.2.2.2.d ⟨β,κ,ℓ⟩))=some (op,.int .i64 n,.int .i64 z):=by intro β ℓ;kernel_rfl)(hf:fitB (runM P far m) κ Φ=true:=by kernel_rfl):Run P S W κ Φ Q m:=by
 refine Run.va (V:=.bool b) [] (cb b) (a:=fun o β ℓ ρ=>∃ t x y t', o.op=.binOp op t x y t'∧ρ x=.int .i64 n∧ρ y=.int .i64 z) (fun {A} β ℓ w o ρ I hp=>?_) rest (fun β ℓ a A=>?_) (fun _ _=>rfl) rfl hf rfl
 ·obtain⟨t,x,y,t', h1,h2,h3⟩:=hp
  exact ex_icmp op t n z h h1 h2 h3
 ·have ha:=ha β ℓ
  cases ho:opOf (runM P far m) with
  | none=>rw [ho] at ha;cases ha
  | some o =>
   rw [ho] at ha
   refine⟨o,rfl,?_⟩
   have ha:(binOf (runM P far m).fr o).map _=some _:=ha
   unfold binOf at ha
   split at ha
   ·rename_i op' t0 x y t' hop'
    split at ha
    ·rename_i v u hx hy
     simp only [Option.map_some,Option.some.injEq,Prod.mk.injEq] at ha
     obtain⟨rfl,e1,e2⟩:=ha
     exact⟨t0,x,y,t', hop', (eval_eo A x v hx).trans e1,(eval_eo A y u hy).trans e2⟩
    ·cases ha
   ·cases ha
def lenOf(fr:List (Option SV))(o:Oper):Option (TypeId×SV) :=
 match o.op with
 | .call ⟨.builtin .len,⟨[x]⟩,⟨[t]⟩⟩=>(eoF fr x).map fun v=>(t,v)
 | _=>none
theorem Run.sl(bs:ByteArray)(t:TypeId)(hu:P.underlying t=some .string)(rest:Run P S W (κ++[.int .i64 (bs.size:Nat)]) (Φ++[]) Q (aft (runM P far m) kb 1 0))(ha:∀ β ℓ,((opOf (runM P far m)).bind (lenOf (runM P far m).fr)).map (fun q=>(q.1,q.2.d ⟨β,κ,ℓ⟩))=some (t,.string bs):=by intro β ℓ;kernel_rfl)(hf:fitB (runM P far m) κ Φ=true:=by kernel_rfl):Run P S W κ Φ Q m:=by
 refine Run.va (V:=.int .i64 (bs.size:Nat)) [.int .i64 (bs.size:Nat)] kb (a:=fun o β ℓ ρ=>∃ x,o.op=.call ⟨.builtin .len,⟨[x]⟩,⟨[t]⟩⟩∧ρ x=.string bs) (fun {A} β ℓ w o ρ I hp=>?_) rest (fun β ℓ a A=>?_) (fun _ _=>rfl) rfl hf rfl
 ·obtain⟨x,ho,hx⟩:=hp
  simp [execOp,ho,hx,run_underlying hu,resolve,invoke,builtin,Builtin.len_,Builtin.lenOf,go_sem,Result.andThen]
 ·have ha:=ha β ℓ
  cases ho:opOf (runM P far m) with
  | none=>rw [ho] at ha;cases ha
  | some o =>
   rw [ho] at ha
   refine⟨o,rfl,?_⟩
   have ha:(lenOf (runM P far m).fr o).map _=some _:=ha
   unfold lenOf at ha
   split at ha
   ·rename_i x t0 hop
    cases hx:eoF (runM P far m).fr x with
    | none=>rw [hx] at ha;cases ha
    | some v =>
     rw [hx] at ha
     simp only [Option.map_some,Option.some.injEq,Prod.mk.injEq] at ha
     obtain⟨rfl,e⟩:=ha
     exact⟨x,hop,(eval_eo A x v hx).trans e⟩
   ·cases ha
theorem ex_seq{t:TypeId}(hu:P.underlying t=some .string)(n:Nat){b:Bool}(hb:decide (n=0)=b){ρ:Operand→Value}{o:Oper}{w:World}{x y:Operand}{t': TypeId}(ho:o.op=.binOp .eql t x y t')(hx:ρ x=.string (bS n))(hy:ρ y=.string ⟨#[]⟩):(execOp ρ o).run P w=.ok (.value (.bool b)) w:=by
 have e:=bS_empty n
 unfold execOp;simp [ho,hx,hy,eqGuard,binOp,Op.stringOp,e,hb,Result.andThen]
theorem spInto{n:Int}:Split (IntO n) (.s (.o (.v 0))) [] [IntO n]:=Split.of fun {S v w} h=>⟨[v],⟨⟨VP1.into h,h⟩,trivial⟩,fun _=>rfl⟩
theorem ex_zz{t:TypeId}(he:∀ w,(Op.equal t (.pointer none) (.pointer none)).run P w=.ok true w){ρ:Operand→Value}{o:Oper}{w:World}{x y:Operand}{t': TypeId}(ho:o.op=.binOp .eql t x y t')(hx:ρ x=.pointer none)(hy:ρ y=.pointer none):(execOp ρ o).run P w=.ok (.value (.bool true)) w:=by
 unfold execOp;simp [ho,hx,hy,eqGuard,binOp,he,Result.andThen]
end
def setKl(r:Nat):List Kf→List Kf
 | []=>[]
 | .kl b _::l=>.kl b r::l
 | k::l=>k::setKl r l
def look:List (Nat×SV)→Nat→Option SV
 | [],_=>none
 | x::l,i=>match Nat.beq x.1 i with
  | true=>some x.2
  | false=>look l i
def lpS(m:MS)(r nk nv:Nat)(F:List (Nat×SV))(B:List Blk):MS:={ m with ks:=setKl r m.ks,fr:=(List.range m.fr.length).map (look F),bl:=B,nk:=nk,nv:=nv,sf:=[] }
section
variable {P:Program} {S:Nat→Prop} {W:World} {κ:List Value} {Φ:List VP} {Q:Exit→Act→World→Prop} {m:MS}
theorem Run.lpX{ι:Type}(F:List (Nat×SV))(B:List Blk)(nk nv:Nat)(κf:ι→List Value)(Φf:ι→List VP)(ok:Nat→ι→Prop)(step:∀ r x,ok r x→(∀ r' x', r=r'+1→ok r' x'→Run P S W (κf x') (Φf x') Q (lpS (runM P far m) r' nk nv F B))→Run P S W (κf x) (Φf x) Q (lpS (runM P far m) r nk nv F B))(start:(∀ r x,ok r x→Run P S W (κf x) (Φf x) Q (lpS (runM P far m) r nk nv F B))→Run P S W κ Φ Q m):Run P S W κ Φ Q m:=start (by
 intro r
 induction r with
 | zero=>intro x h;exact step 0 x h (fun r' x' e=>by cases e)
 | succ r ih=>intro x h;exact step _ x h (fun r' x' e h' => by cases e;exact ih x' h'))
theorem wrap_62{n:Int}(h:0≤n)(h1:n<2^62):IntKind.wrap .i64 n=n:=by
 have h2:n%2^64=n:=Int.emod_eq_of_lt h (by omega)
 unfold IntKind.wrap
 rw [show IntKind.bits .i64=64 from rfl,h2]
 have:¬ (n≥(2^(64-1):Int)):=by omega
 simp;intro _ h;omega
end
def noB(b:Nat):At→Bool
 | .p c _=>!Nat.beq c b
 | .sl c _ _ _=>!Nat.beq c b
 | .ls c _ _=>!Nat.beq c b
 | .fn _ bs=>bs.all fun c=>!Nat.beq c b
 | _=>true
def S1.noB(b:Nat)(x:S1):Bool:=x.cl.all (Eng.noB b)
def SV.noB(b:Nat):SV→Bool
 | .s x=>x.noB b
 | .tup l=>l.all (S1.noB b)
def dropO(b:Nat):Option SV→Option SV
 | some v=>if v.noB b then some v else none
 | none=>none
def dropB(b:Nat)(fr:List (Option SV)):List (Option SV):=fr.map (dropO b)
def reE(E:Env)(b g:Nat):Env:=⟨fun c=>if c=b then g else E.β c,E.κ,E.ℓ⟩
section
variable {E:Env} {b g:Nat}
theorem reE_ne{c:Nat}(h:(!Nat.beq c b)=true):(reE E b g).β c=E.β c:=if_neg fun e=>by
 subst e;rw [Nat.beq_refl] at h;cases h
theorem noB_d{a:At}(h:noB b a=true):a.d (reE E b g)=a.d E:=by
 cases a with
 | v n=>rfl
 | k n=>rfl
 | c x=>rfl
 | p c off=>show Value.pointer (some ⟨(reE E b g).β c,off,none⟩)=_;rw [reE_ne h];rfl
 | sl c off n m=>show Value.slice (some ⟨(reE E b g).β c,off,none⟩) n m=_;rw [reE_ne h];rfl
 | ls c n m=>show Value.slice (some ⟨(reE E b g).β c,0,none⟩) n m=_;rw [reE_ne h];rfl
 | fn f bs =>
  show Value.func (.func f) #[] ⟨bs.map fun c=>.pointer (some ⟨(reE E b g).β c,0,none⟩)⟩=.func (.func f) #[] ⟨bs.map fun c=>.pointer (some ⟨E.β c,0,none⟩)⟩
  rw [List.map_congr_left fun c hc=>by rw [reE_ne (List.all_eq_true.1 h c hc)]]
 | fm f ns=>rfl
theorem noB_L{l:List At}(h:l.all (noB b)=true):l.map (At.d (reE E b g))=l.map (At.d E):=List.map_congr_left fun a ha=>noB_d (List.all_eq_true.1 h a ha)
theorem S1.noB_d{a:S1}(h:a.noB b=true):a.d (reE E b g)=a.d E:=by
 cases a with
 | o a =>
  have h:[a].all (Eng.noB b)=true:=h
  exact Eng.noB_d (by simpa using h)
 | agg l =>
  have h:l.all (Eng.noB b)=true:=h
  show Value.agg ⟨l.map (At.d (reE E b g))⟩=.agg ⟨l.map (At.d E)⟩
  rw [noB_L h]
theorem SV.noB_d{a:SV}(h:a.noB b=true):a.d (reE E b g)=a.d E:=by
 cases a with
 | s a=>exact S1.noB_d h
 | tup l =>
  show Value.tuple ⟨l.map (S1.d (reE E b g))⟩=.tuple ⟨l.map (S1.d E)⟩
  rw [List.map_congr_left fun a ha=>S1.noB_d (List.all_eq_true.1 h a ha)]
theorem AgF.drop{D:List Deferred}{fr:List (Option SV)}{a:Act}(A:AgF D E fr a):AgF D (reE E b g) (dropB b fr) a:=⟨A.nd,by unfold dropB;rw [List.length_map];exact A.sz,fun t v hv=>by
 unfold dropB at hv
 rw [nth_map] at hv
 cases hn:nth fr t with
 | none=>rw [hn] at hv;cases hv
 | some o =>
  rw [hn] at hv
  have hv:dropO b o=some v:=Option.some.inj hv
  cases o with
  | none=>cases hv
  | some u =>
   have hv:(if u.noB b then some u else none)=some v:=hv
   split at hv
   ·rename_i hb;cases hv;rw [SV.noB_d hb];exact A.at_ t v hn
   ·cases hv⟩
end
section
variable {P:Program} {A S:Nat→Prop} {W:World} {κ:List Value} {Φ:List VP} {Q:Exit→Act→World→Prop} {m:MS}
theorem Inv.reB{E:Env}{w w': World}{bl:List Blk}{sf:List Nat}{b g:Nat}{k:Blk}{cs:List At}(I:Inv A S W κ Φ E bl sf w)(hk:nth bl b=some k)(hfn:k.fact=none)(hown:k.own=true)(hl:Rgn.Loc k.ty=true)(hoth:∀ c l,nth bl c=some l→c≠b→l.cells.map (At.d (reE E b g))=l.cells.map (At.d E))(h1:w'.os=w.os)(h2:w'.tape=w.tape)(h3:w'.output=w.output)(hsz:w.heap.size≤w'.heap.size)(hblk:∀ j,j<w.heap.size→j≠E.β b→w'.heap[j]? = w.heap[j]?)(hg:g=E.β b∨w.heap.size≤g)(hgl:g<w'.heap.size)(hB:HC (reE E b g) cs k.ty w'.heap[g]?):Inv (fun j=>A j∨j=g) S W κ Φ (reE E b g) (setL bl b ⟨k.ty,cs,true,none,false⟩) sf w' := by
 have hge:=I.own b k hk hown
 have hgW:W.heap.size≤g:=by
  rcases hg with rfl|hg
  ·exact hge
  ·exact Nat.le_trans I.bel.size hg
 have hG:∀ T,GrowS T w w' := fun T=>⟨h1,h2,h3,hsz,fun j hj=>by
  by_cases e:j=E.β b
  ·subst e
   obtain⟨r,hr,_⟩:=I.blk b k hk hfn
   exact .inr (.inl ⟨_,_,_,hr,hl⟩)
  ·exact .inl (hblk j hj e)⟩
 have hne:∀ c l,nth bl c=some l→c≠b→E.β c≠E.β b:=fun c l h hc=>by
  cases e:l.own with
  | true=>exact I.inj c b l k h hk e hown hc
  | false=>exact Nat.ne_of_lt (Nat.lt_of_lt_of_le (I.old c l h e) hge)
 have hng:∀ c l,nth bl c=some l→c≠b→E.β c≠g:=fun c l h hc=>by
  rcases hg with rfl|hg
  ·exact hne c l h hc
  ·exact Nat.ne_of_lt (Nat.lt_of_lt_of_le (I.lt c l h) hg)
 have hb:(reE E b g).β b=g:=if_pos rfl
 have hc:∀ c,c≠b→(reE E b g).β c=E.β c:=fun c h=>if_neg h
 refine⟨I.ek,?_,?_,?_,?_,?_,?_,I.ol,I.ok,?_,?_,?_,?_,?_⟩
 ·exact I.bel.trans ⟨h1,h2,h3,hsz,fun j hj=>hblk j (Nat.lt_of_lt_of_le hj I.bel.size) (Nat.ne_of_lt (Nat.lt_of_lt_of_le hj hge))⟩
 ·intro c l h
  rcases nth_setL h with⟨rfl,rfl,_⟩|⟨hcb,h⟩
  ·rw [hb];exact hgl
  ·rw [hc c hcb];exact Nat.lt_of_lt_of_le (I.lt c l h) hsz
 ·intro c l h hf
  rcases nth_setL h with⟨rfl,rfl,_⟩|⟨hcb,h⟩
  ·rw [hb];exact hB
  ·rw [hc c hcb,hblk _ (I.lt c l h) (hne c l h hcb)]
   exact (I.blk c l h hf).env (hoth c l h hcb)
 ·intro c l h ho
  rcases nth_setL h with⟨rfl,rfl,_⟩|⟨hcb,h⟩
  ·rw [hb];exact hgW
  ·rw [hc c hcb];exact I.own c l h ho
 ·intro c l h ho
  rcases nth_setL h with⟨rfl,rfl,_⟩|⟨hcb,h⟩
  ·cases ho
  ·rw [hc c hcb];exact I.old c l h ho
 ·intro c d l m h g' ho1 ho2 hn
  rcases nth_setL h with⟨e1,_,_⟩|⟨hcb,h'⟩
  ·rcases nth_setL g' with⟨e2,_,_⟩|⟨hdb,g''⟩
   ·exact absurd (e1.trans e2.symm) hn
   ·rw [e1,hb,hc d hdb];exact (hng d m g'' hdb).symm
  ·rcases nth_setL g' with⟨e2,_,_⟩|⟨hdb,g''⟩
   ·rw [e2,hb,hc c hcb];exact hng c l h' hcb
   ·rw [hc c hcb,hc d hdb];exact I.inj c d l m h' g'' ho1 ho2 hn
 ·intro n φ h hs
  exact φ.grow (hG _) (φ.mono (fun k _ ha=>.inl ha) (I.fac n φ h hs))
 ·intro j hj
  rcases hj with hj|rfl
  ·exact I.up j hj
  ·exact .inr hgW
 ·intro c l h ho hs
  rcases nth_setL h with⟨rfl,rfl,_⟩|⟨hcb,h⟩
  ·rw [hb];exact .inr rfl
  ·rw [hc c hcb];exact .inl (I.se c l h ho hs)
 ·intro c l h hs
  rcases nth_setL h with⟨rfl,rfl,_⟩|⟨hcb,h⟩
  ·cases hs
  ·rw [hc c hcb]
   obtain⟨q1,q2,q3⟩:=I.so c l h hs
   exact⟨q1,fun e=>e.elim q2 (hng c l h hcb),Soft.keep q3 (hblk _ (I.lt c l h) (hne c l h hcb))⟩
 ·intro c l n h hf
  rcases nth_setL h with⟨rfl,rfl,_⟩|⟨hcb,h⟩
  ·cases hf
  ·rw [hc c hcb]
   obtain⟨q1,q2,φ,q3,q4⟩:=I.sof c l n h hf
   exact⟨q1,Soft.keep q2 (hblk _ (I.lt c l h) (hne c l h hcb)),φ,q3,φ.grow (hG _) q4⟩
section
variable {w:World} {TS ty T:TypeId} {i:TypeInfo} {z:Value} {sz bt:Nat} (ht:P.underlying TS=some (.slice T)) (hi:P.info? T=some i) (hz:i.zero=some z) (hsize:i.size=sz) (hby:i.bytes=bt) (hzs:z.cells.size=sz) (hsz:0<sz) (hb:bt≤100000)
 (a:Addr) (c0:Nat) (news:List Value) (hl:news.length=sz) (hnews:∀ j u,news[j]? = some u→w.cell? (a.add j)=some u)
include ht hi hz hsize hby hzs hsz hb hl hnews
theorem ap_nil:∃ c cur w', (Builtin.append_ #[TS,TS] ty #[.slice none 0 0,.slice (some a) 1 c0]).run P w=.ok (.slice (some ⟨w.heap.size,0,none⟩) 1 (c+1)) w'∧RowKit.Below w.heap.size w w'∧w'.heap[w.heap.size]? = some (.cells cur T (0,0))∧cur.size=(c+1)*sz∧cur.toList.take sz=news:=by
 subst hsize
 subst hby
 have hr:=run_append_nil (P:=P) w TS ty T i z ht hi hz a 1 c0 news (by omega) hnews (by omega) (by decide) (by omega)
 have hge:=grownCap_ge w 1 0 T
 obtain⟨c,hc⟩:∃ c,grownCap w 1 0 T=c+1:=⟨grownCap w 1 0 T-1,by omega⟩
 rw [hc] at hr
 refine⟨c,_,_,hr,⟨rfl,rfl,rfl,by simp,fun k hk=>heap_alloc_old w.drew _ hk⟩,heap_alloc_new w.drew _,?_,?_⟩
 ·simp only [Array.size_append,List.size_toArray,size_zeroCells,hzs,hl,Nat.add_sub_cancel]
  rw [Nat.add_mul];omega
 ·simp only [Array.toList_append]
  rw [← hl];exact List.take_left
theorem ap_own(h1:∀ u ∈ news,u.oneCell'=true){g n cap:Nat}{cur:Array Value}(hg:w.heap[g]? = some (.cells cur T (0,0)))(hc:cur.size=(cap+n)*sz)(hn:n≤100000):∃ g' c cur' w', (Builtin.append_ #[TS,TS] ty #[.slice (some ⟨g,0,none⟩) n (cap+n),.slice (some a) 1 c0]).run P w=.ok (.slice (some ⟨g', 0,none⟩) (n+1) (c+(n+1))) w'∧w'.os=w.os∧w'.tape=w.tape∧w'.output=w.output∧w.heap.size≤w'.heap.size ∧
   (∀ j,j<w.heap.size→j≠g→w'.heap[j]? = w.heap[j]?)∧(g'=g∨w.heap.size≤g')∧w'.heap[g']? = some (.cells cur' T (0,0))∧cur'.size=(c+(n+1))*sz∧cur'.toList.take ((n+1)*sz)=cur.toList.take (n*sz)++news:=by
 subst hsize
 subst hby
 have hle:n*i.size≤cur.size:=by rw [hc];exact Nat.mul_le_mul_right _ (by omega)
 have htl:(cur.toList.take (n*i.size)).length=n*i.size:=by rw [List.length_take];simp;omega
 have e1:(n+1)*i.size=n*i.size+i.size:=Nat.succ_mul _ _
 cases cap with
 | succ cap =>
  have hfit:n*i.size+news.length≤cur.size:=by rw [hl,hc,← e1];exact Nat.mul_le_mul_right _ (by omega)
  have hr:=run_append_room (P:=P) w TS ty T i ht hi g n (cap+1+n) cur hg a 1 c0 news (by omega) hnews h1 (by omega) hfit
  rw [show cap+1+n=cap+(n+1) by omega] at hr
  have ho:=setRow_only w g (cur.toList.take (n*i.size)++news++cur.toList.drop (n*i.size+news.length)).toArray
  rw [show cap+1+n=cap+(n+1) by omega]
  refine⟨g,cap,_,_,hr,rfl,rfl,rfl,by simp [World.setRow],fun j hj hne=>ho.block j hj hne,.inl rfl,setRow_at hg,?_,?_⟩
  ·simp only [List.size_toArray,List.length_append,htl,List.length_drop,Array.length_toList]
   rw [show cap+(n+1)=cap+1+n by omega,← hc];omega
  ·rw [e1,← hl]
   have:(cur.toList.take (n*news.length)++news).length=n*news.length+news.length:=by rw [List.length_append,hl,htl]
   rw [← this];exact List.take_left
 | zero =>
  rw [Nat.zero_add] at hc ⊢
  have hx:cur.toList.take (n*i.size)=cur.toList:=List.take_of_length_le (by simp;omega)
  rw [hx]
  have hb2:(n+1)*i.bytes≤140737488355328:=Nat.le_trans (Nat.mul_le_mul (show n+1≤100001 by omega) hb) (by decide)
  have hr:=run_append_grow (P:=P) w TS ty T i z ht hi hz ⟨g,0,none⟩ n n cur.toList (by simpa using hc) (fun j u hj=>by rw [Addr.add_lit];simpa [World.cell?,hg] using hj) a 1 c0 news (by omega) hnews (by omega) (by omega) (growslice_fits (by omega) hb2)
  have hge:=grownCap_ge w (n+1) n T
  obtain⟨c,hcc⟩:∃ c,grownCap w (n+1) n T=c+(n+1):=⟨grownCap w (n+1) n T-(n+1),by omega⟩
  rw [hcc] at hr
  refine⟨w.heap.size,c,_,_,hr,rfl,rfl,rfl,by simp,fun k hk _=>heap_alloc_old w.drew _ hk,.inr (Nat.le_refl _),heap_alloc_new w.drew _,?_,?_⟩
  ·simp only [Array.size_append,List.size_toArray,size_zeroCells,hzs,hl,Nat.add_sub_cancel,Array.length_toList,hc]
   rw [Nat.add_mul c,e1];omega
  ·simp only [Array.toList_append]
   rw [e1,← hc]
   have:(cur.toList++news).length=cur.size+i.size:=by simp [hl]
   rw [← this];exact List.take_left
end
def apOf(m:MS):Option (TypeId×SV×SV) :=
 match opOf m with
 | some o=>match o.op with
  | .call ⟨.builtin .append,⟨[s,x]⟩,⟨[t,t']⟩⟩=>match Nat.beq t t', eoF m.fr s,eoF m.fr x with
   | true,some v,some u=>some (t,v,u)
   | _,_,_=>none
  | _=>none
 | none=>none
theorem ap_enter{TS:TypeId}{v u:SV}{E:Env}(h:apOf m=some (TS,v,u)){a:Act}(G:AgF m.df E m.fr a):∃ o all rst s x,m.cur=.ops all (o::rst)∧Region.wanted o (yielded all a.tmps)=true∧o.op=.call { callee:=.builtin .append,args:=#[s,x],argTypes:=#[TS,TS] }∧a.eval s=v.d E∧a.eval x=u.d E:=by
 unfold apOf at h
 split at h
 ·rename_i o ho
  split at h
  ·rename_i s x t t' hop
   split at h
   ·rename_i v' u' ht hs hx
    cases h
    obtain⟨all,rst,hcur⟩:=op_cur ho
    obtain⟨_,hg⟩:=guard_ok G hcur ho
    have ht:=Nat.eq_of_beq_eq_true ht
    subst ht
    exact⟨o,all,rst,s,x,hcur,hg,hop,eval_eo G s _ hs,eval_eo G x _ hx⟩
   ·cases h
  ·cases h
 ·cases h
abbrev mkN(N:Nat):At:=.c (.tuple #[.slice none N 0])
def szX(P:Program)(T:TypeId):Nat:=match P.info? T with|some i=>i.size|none=>0
def elB(P:Program)(TS T:TypeId):Bool :=
 match sliceE P TS,(P.info? T).map (fun i=>(i.zero.map (·.cells.size),i.size,i.bytes)) with
 | some T', some (some zs,sz,bt)=>Nat.beq T' T&&Nat.beq zs sz&&Nat.blt 0 sz&&Nat.ble bt 100000
 | _,_=>false
theorem elB_ex{TS T:TypeId}(h:elB P TS T=true):∃ i z,P.underlying TS=some (.slice T)∧P.info? T=some i∧i.zero=some z∧z.cells.size=i.size∧0<i.size∧i.bytes≤100000∧i.size=szX P T:=by
 unfold elB at h
 split at h
 ·rename_i T' zs sz bt hs hq
  simp only [Bool.and_eq_true] at h
  obtain⟨⟨⟨c1,c2⟩,c3⟩,c4⟩:=h
  have c1:=Nat.eq_of_beq_eq_true c1
  have c2:=Nat.eq_of_beq_eq_true c2
  have c3:0<sz:=by simpa [Nat.blt_eq] using c3
  have c4:=Nat.le_of_ble_eq_true c4
  subst c1
  cases hi:P.info? T' with
  | none=>rw [hi] at hq;cases hq
  | some i =>
   rw [hi] at hq
   simp only [Option.map_some,Option.some.injEq,Prod.mk.injEq] at hq
   obtain⟨q1,q2,q3⟩:=hq
   cases hz:i.zero with
   | none=>rw [hz] at q1;cases q1
   | some z =>
    rw [hz] at q1
    have q1:z.cells.size=zs:=Option.some.inj q1
    exact⟨i,z,sliceE_ex hs,rfl,hz,by omega,by omega,by omega,by unfold szX;rw [hi]⟩
 ·cases h
def newB(P:Program)(TS T:TypeId)(b2:Nat)(m:MS):Bool :=
 match nth m.bl b2 with
 | some k2=>elB P TS T&&k2.fact.isNone && !headT k2.cells&&Nat.beq k2.cells.length (szX P T)&&k2.cells.all At.one&&Rgn.Loc T
 | none=>false
def apOk0(P:Program)(TS T:TypeId)(b2:Nat)(m:MS):Bool:=newB P TS T b2 m
def cellsOf(m:MS)(b:Nat):List At:=match nth m.bl b with|some k=>bodyC k.cells|none=>[]
def aftA0(P:Program)(T:TypeId)(b2 c:Nat)(m:MS):MS :=
 match m.cur with
 | .ops all (o::rest)=>{ m with cur:=.ops all rest,fr:=putF m.fr o.dst (some (.s (.o (.sl m.bl.length 0 1 (c+1))))),bl:=m.bl++[⟨T,mkN ((c+1)*szX P T)::cellsOf m b2,true,none,false⟩] }
 | _=>m
def tyOf(m:MS)(b:Nat):TypeId:=match nth m.bl b with|some k=>k.ty|none=>0
def othB(m:MS)(b:Nat):Bool:=(List.range m.bl.length).all fun c=>Nat.beq c b||match nth m.bl c with|some l=>l.cells.all (noB b)|none=>true
theorem news_at{E:Env}{w:World}{bl:List Blk}{sf:List Nat}{b2:Nat}{k2:Blk}(I:Inv A S W κ Φ E bl sf w)(hk:nth bl b2=some k2)(hf:k2.fact=none)(hT:headT k2.cells=false):∀ j u,(k2.cells.map (At.d E))[j]? = some u→w.cell? ((⟨E.β b2,0,none⟩:Addr).add j)=some u:=by
 intro j u hj
 have hB:=(I.blk b2 k2 hk hf).ex hT
 rw [Addr.add_lit]
 simpa [World.cell?,hB] using hj
theorem Run.a0(T TS:TypeId)(b2:Nat)(rest:∀ c,Run P S W κ Φ Q (aftA0 P T b2 c (runM P far m)))(ha:apOf (runM P far m)=some (TS,.s (.o (.c (.slice none 0 0))),.s (.o (.sl b2 0 1 1))):=by kernel_rfl)(hok:apOk0 P TS T b2 (runM P far m)=true:=by kernel_rfl)(hf:fitB (runM P far m) κ Φ=true:=by kernel_rfl):Run P S W κ Φ Q m :=
 run_sound far <| Run.mk fun A0 E a w I G=>by
  obtain⟨β,κ', ℓ⟩:=E
  have e:=I.ek
  simp only at e
  subst e
  generalize hm:runM P far m=q at *
  obtain⟨o,all,rst,s,x,hcur,hg,hop,hs,hx⟩:=ap_enter ha G
  unfold apOk0 newB at hok
  split at hok
  ·rename_i k2 hk2
   simp only [Bool.and_eq_true,Bool.not_eq_true'] at hok
   obtain⟨⟨⟨⟨⟨d1,d2⟩,d3⟩,d4⟩,d5⟩,d6⟩:=hok
   obtain⟨i,z,t1,t2,t3,t4,t5,t6,t7⟩:=elB_ex d1
   have d2:k2.fact=none:=by cases h:k2.fact with|none=>rfl|some _=>rw [h] at d2;cases d2
   have d4:=Nat.eq_of_beq_eq_true d4
   have hone:=(I.sees G).all d5
   have hc2:cellsOf q b2=k2.cells:=by unfold cellsOf;rw [hk2];exact bodyC_no d3
   obtain⟨c,cur,w', hr,hbel,hB,hcs,htk⟩:=ap_nil (P:=P) (w:=w) (ty:=o.type) t1 t2 t3 rfl rfl t4 t5 t6 ⟨β b2,0,none⟩ 1 (k2.cells.map (At.d ⟨β,κ', ℓ⟩)) (by rw [List.length_map];omega) (news_at I hk2 d2 d3)
   rw [den_op hcur]
   refine wpList_step fun K hK=>?_
   rw [if_pos hg]
   simp only [Oper.wp,ex_append hop hs hx hr,Oper.upon]
   have hR:=rest c
   have hq:aftA0 P T b2 c q={ q with cur:=.ops all rst,fr:=putF q.fr o.dst (some (.s (.o (.sl q.bl.length 0 1 (c+1))))),bl:=q.bl++[⟨T,mkN ((c+1)*szX P T)::k2.cells,true,none,false⟩] }:=by unfold aftA0;rw [hcur,hc2]
   rw [hq] at hR
   have hf' := hf
   simp only [fitB,MS.okB,Bool.and_eq_true] at hf'
   obtain⟨⟨⟨f0,f1⟩,f2⟩,f3⟩:=hf'
   have f2:=Nat.eq_of_beq_eq_true f2
   have f3:=Nat.eq_of_beq_eq_true f3
   obtain⟨I1,ac1⟩:=I.more (κs:=[]) (φs:=[]) (xs:=[]) hf hbel (fun n=>rfl) (fun n=>rfl) (fun n ψ hn=>(by cases n<;>cases hn))
   have hE:Env.more ⟨β,κ', ℓ⟩ [] q.nv []=⟨β,κ'++[],fun n=>if n<q.nv then ℓ n else kat [] (n-q.nv)⟩:=rfl
   have s1:Same q.bl.length q.nk q.nv ⟨β,κ', ℓ⟩ (Env.more ⟨β,κ', ℓ⟩ [] q.nv []):=more_same (by rw [f2];exact Nat.le_refl _)
   have hcell:k2.cells.map (At.d (Env.more ⟨β,κ', ℓ⟩ [] q.nv []))=k2.cells.map (At.d ⟨β,κ', ℓ⟩):=At.sameL s1 (List.all_eq_true.1 f1 k2 (nth_mem hk2))
   obtain⟨I2,s2⟩:=I1.addB (b:=w.heap.size) (T:=T) (nk:=q.nk) (nv:=q.nv) (cs:=mkN ((c+1)*szX P T)::k2.cells) rfl f1 (by show (true&&_)=true;rw [Bool.true_and];exact List.all_eq_true.1 f1 k2 (nth_mem hk2))
    I.bel.size (lt_of hB) (.inr (Nat.le_refl _)) (fun c k hk=>Nat.ne_of_lt (I.lt c k hk)) ⟨cur.toList.drop (szX P T),by
     show w'.heap[w.heap.size]? = some (.cells ⟨k2.cells.map (At.d (Env.more ⟨β,κ', ℓ⟩ [] q.nv []))++_⟩ T (0,0))
     rw [hcell,hB]
     congr 2
     apply Array.toList_inj.1
     show cur.toList=_++cur.toList.drop (szX P T)
     rw [← htk,t7,List.take_append_drop],fun h=>(by cases h),fun N hN=>by
     have hN:(c+1)*szX P T=N:=Option.some.inj hN
     show k2.cells.length+(cur.toList.drop (szX P T)).length=N
     have h9:szX P T≤(c+1)*szX P T:=Nat.le_mul_of_pos_left _ (Nat.succ_pos c)
     rw [List.length_drop,Array.length_toList,hcs,t7,← hN,d4]
     generalize (c+1)*szX P T=M at *
     omega,fun C hC=>(nomatch (show (none:Option (Array Value))=some C from hC))⟩
   have G1:=ac1 _ G
   have G2:=put_v (G1.same s2 f0) o.dst (.s (.o (.sl q.bl.length 0 1 (c+1))))
   have e2:(SV.s (.o (.sl q.bl.length 0 1 (c+1)))).d ⟨fun c=>if c=q.bl.length then w.heap.size else (Env.more ⟨β,κ', ℓ⟩ [] q.nv []).β c,(Env.more ⟨β,κ', ℓ⟩ [] q.nv []).κ,(Env.more ⟨β,κ', ℓ⟩ [] q.nv []).ℓ⟩=.slice (some ⟨w.heap.size,0,none⟩) 1 (c+1):=by
    show Value.slice (some ⟨if q.bl.length=q.bl.length then w.heap.size else _,0,none⟩) 1 (c+1)=_
    rw [if_pos rfl]
   rw [e2] at G2
   have hR2:=hR.r _ _ _ w' (by simpa using I2) G2
   exact hK _ _ hR2
  ·cases hok
theorem reE_self{E:Env}{b:Nat}:reE E b (E.β b)=E:=by
 unfold reE
 obtain⟨β,κ', ℓ⟩:=E
 congr 1
 funext c
 show (if c=b then β b else β c)=β c
 split
 ·rename_i h;rw [h]
 ·rfl
def stOf(m:MS):Option (TypeId×SV×SV) :=
 match opOf m with
 | some o=>match o.op with
  | .store t x y=>match eoF m.fr x,eoF m.fr y with
   | some u,some v=>some (t,u,v)
   | _,_=>none
  | _=>none
 | none=>none
def hdC:List At→At
 | a::_=>a
 | []=>cU0
where cU0:At:=.c undef
def smOk(P:Program)(b off:Nat)(m:MS):Bool :=
 match stOf m with
 | some (t,.s (.o (.p b' off')),.s v)=>Nat.beq b' b&&Nat.beq off' off&&match nth m.bl b,szOf P t with
  | some k,some n=>k.own&&k.fact.isNone&&Rgn.Loc k.ty&&headT k.cells&&Nat.beq n v.cl.length&&(off+n).ble (bodyC k.cells).length&&v.cl.all At.one
  | _,_=>false
 | _=>false
def valS(m:MS):List At:=match stOf m with|some (_,_,.s v)=>v.cl|_=>[]
def aftS(b off:Nat)(m:MS):MS :=
 match m.cur with
 | .ops all (o::rest)=>{ m with cur:=.ops all rest,fr:=putF m.fr o.dst (some cU),bl:=match nth m.bl b with|some k=>setL m.bl b ⟨k.ty,hdC k.cells::putAt (bodyC k.cells) off (valS m),true,none,false⟩|none=>m.bl }
 | _=>m
theorem putAt_len{cs vs:List At}{off:Nat}(h:off+vs.length≤cs.length):(putAt cs off vs).length=cs.length:=by
 unfold putAt;simp only [List.length_append,List.length_take,List.length_drop];omega
theorem Run.sm(b off:Nat)(rest:Run P S W κ Φ Q (aftS b off (runM P far m)))(hok:smOk P b off (runM P far m)=true:=by kernel_rfl):Run P S W κ Φ Q m :=
 run_sound far <| Run.mk fun A0 E a w I G=>by
  generalize hm' : runM P far m=q at *
  unfold smOk at hok
  split at hok
  ·rename_i t b' off' v hst
   simp only [Bool.and_eq_true] at hok
   obtain⟨⟨e1,e2⟩,hok⟩:=hok
   have e1:=Nat.eq_of_beq_eq_true e1
   have e2:=Nat.eq_of_beq_eq_true e2
   subst e1
   subst e2
   split at hok
   ·rename_i k n hk hn
    simp only [Bool.and_eq_true] at hok
    obtain⟨⟨⟨⟨⟨⟨c1,c2⟩,c3⟩,c4⟩,c5⟩,c6⟩,c7⟩:=hok
    have c5:=Nat.eq_of_beq_eq_true c5
    have c6:=Nat.le_of_ble_eq_true c6
    have c2:k.fact=none:=by cases h:k.fact with|none=>rfl|some _=>rw [h] at c2;cases c2
    have hv:valS q=v.cl:=by unfold valS;rw [hst]
    unfold stOf at hst
    split at hst
    ·rename_i o ho
     split at hst
     ·rename_i t' x y hop
      split at hst
      ·rename_i u u' hx hy
       cases hst
       obtain⟨all,rst,hcur⟩:=op_cur ho
       obtain⟨_,hg⟩:=guard_ok G hcur ho
       have hx:=eval_eo G x _ hx
       have hy:=eval_eo G y _ hy
       have hx:a.eval x=.pointer (some ⟨E.β b', off', none⟩):=hx
       have hcl:=(I.sees G).cl c7
       have hy:a.eval y=v.d E:=hy
       obtain⟨r,hB,_,hN,hC4⟩:=I.blk b' k hk c2
       have hs:=run_storeCells_at (P:=P) (E.β b') off' k.ty (v.cl.map (At.d E)) 0 ⟨(bodyC k.cells).map (At.d E)++r⟩ w hB (by simp;omega) ((I.sees G).all c7)
       rw [den_op hcur]
       cases hq:P.info? t with
       | none=>simp [szOf,hq] at hn
       | some i =>
        have hsz:v.cl.length=i.size:=by simp [szOf,hq] at hn;omega
        have hput:(⟨((bodyC k.cells).map (At.d E)++r).take off'++v.cl.map (At.d E)++((bodyC k.cells).map (At.d E)++r).drop (off'+v.cl.length)⟩:Array Value)=⟨(putAt (bodyC k.cells) off' v.cl).map (At.d E)++r⟩:=by
         congr 1
         rw [List.take_append_of_le_length (by simp;omega),List.drop_append_of_le_length (by simp;omega)]
         simp [putAt,List.map_take,List.map_drop,List.append_assoc]
        have hr:(storeVar t ⟨E.β b', off', none⟩ (v.d E)).run P w=.ok () (w.setRow (E.β b') ⟨(putAt (bodyC k.cells) off' v.cl).map (At.d E)++r⟩):=by
         rw [← hput]
         simp only [storeVar,sizeOf,typeInfo,Sem.run_bind]
         simp [hq,hcl,hsz,hs]
        have hrun:(execOp a.eval o).run P w=.ok .skip (w.setRow (E.β b') ⟨(putAt (bodyC k.cells) off' v.cl).map (At.d E)++r⟩):=by
         unfold execOp
         simp only [hop,hx,hy,Instr.storeAt,Instr.sureAddr,Sem.run_bind,Sem.run_pure,Result.andThen_ok,hr]
        refine wL_skip hg hrun ?_
        have hq' : aftS b' off' q={ q with cur:=.ops all rst,fr:=putF q.fr o.dst (some cU),bl:=setL q.bl b' ⟨k.ty,hdC k.cells::putAt (bodyC k.cells) off' v.cl,true,none,false⟩ }:=by unfold aftS;rw [hcur,hk,hv]
        rw [hq'] at rest
        have ho:=setRow_only w (E.β b') ⟨(putAt (bodyC k.cells) off' v.cl).map (At.d E)++r⟩
        have hhd:∃ l,k.cells=hdC k.cells::l∧isT (hdC k.cells)=true∧bodyC k.cells=l:=by
         cases hc:k.cells with
         | nil=>rw [hc] at c4;cases c4
         | cons x l =>
          rw [hc] at c4
          have c4:isT x=true:=c4
          exact⟨l,rfl,c4,by show (if isT x then l else x::l)=l;rw [if_pos c4]⟩
        obtain⟨l,hkc,hT,hbl⟩:=hhd
        have hbody:bodyC (hdC k.cells::putAt (bodyC k.cells) off' v.cl)=putAt (bodyC k.cells) off' v.cl:=by
         show (if isT (hdC k.cells) then _ else _)=_;rw [if_pos hT]
        have I2:=I.reB (g:=E.β b') (cs:=hdC k.cells::putAt (bodyC k.cells) off' v.cl) (w' := w.setRow (E.β b') ⟨(putAt (bodyC k.cells) off' v.cl).map (At.d E)++r⟩) hk c2 c1 c3 (fun c l _ _=>by rw [reE_self]) rfl rfl rfl (by simp [World.setRow]) (fun j hj hne=>ho.block j hj hne) (.inl rfl) (by simp [World.setRow];exact I.lt b' k hk) ⟨r,by
         rw [reE_self,hbody];exact setRow_at hB,fun h=>(by have h:isT (hdC k.cells)=false:=h;rw [hT] at h;cases h),fun N hN' => by
         rw [hbody,putAt_len (by omega)]
         refine hN N ?_
         rw [hkc];exact hN', fun C hC=>hC4 C (by rw [hkc];exact hC)⟩
        rw [reE_self] at I2
        exact rest.r _ _ _ _ I2 (put_v G o.dst cU)
      ·cases hst
     ·cases hst
    ·cases hst
   ·cases hok
  ·cases hok
theorem HC.r{E:Env}{cs:List At}{T:TypeId}{o:Option Obj}{ys:List Value}(h:HC E cs T o)(e:(bodyC cs).map (At.d E)=ys):∃ r:List Value,o=Option.some (Obj.cells ⟨ys++r⟩ T (0,0)):=by
 obtain⟨r,h1,_⟩:=h
 exact⟨r,by rw [← e];exact h1⟩
theorem HC.q{E:Env}{cs:List At}{T:TypeId}{o:Option Obj}{ys:List Value}{q:Nat}(h:HC E cs T o)(e:((bodyC cs).map (At.d E)).take q=ys):∃ r:List Value,o=Option.some (Obj.cells ⟨ys++r⟩ T (0,0)):=by
 obtain⟨r,h1,_⟩:=h
 exact⟨((bodyC cs).map (At.d E)).drop q++r,by rw [← e,← List.append_assoc,List.take_append_drop];exact h1⟩
theorem AllF.z{S:Nat→Prop}{w:World}:AllF S w [] []:=trivial
theorem AllF.rat{S:Nat→Prop}{W:World}{v:Value}{q:Rat}{xs:List Value}{φs:List VP}(h:(RatP q).p S v W)(t:AllF (Amb S W) W xs φs):AllF (Amb S W) W (v::xs) (RatP q::φs):=⟨⟨VP1.rat h,(RatP q).amb h⟩,t⟩
theorem Pack.bm{vs': List Value}{svs:List SV}{bl:List Blk}(pk:Pack S W vs' svs bl κ Φ){b:Nat}{ys:List Value}{φs:List VP}{T:TypeId}(B:∃ r:List Value,W.heap[b]? = some (.cells ⟨ys++r⟩ T (0,0)))(len cap n:Nat)(hF:AllF (Amb S W) W ys φs)(hn:φs.length=n:=by rfl)(h:packB svs bl κ.length Φ.length=true:=by kernel_rfl):Pack S W (vs'++[.slice (some ⟨b,0,none⟩) len cap]) (svs++[.s (.o (.sl bl.length 0 len cap))]) (bl++[⟨T,mkT::vs Φ.length n,false,none,false⟩]) κ (Φ++φs):=by
 obtain⟨xs,β,h0,h1,h2,h3,h4⟩:=pk.ex
 have g0:=hF.len
 have g1:=hF.one
 have g3:=hF.fac
 simp only [packB,Bool.and_eq_true] at h
 let β' : Nat→Nat:=fun i=>if i=bl.length then b else β i
 have s:Same bl.length κ.length Φ.length ⟨β,κ,kat xs⟩ ⟨β', κ,kat (xs++ys)⟩:=⟨fun i hi=>if_neg (Nat.ne_of_lt hi),fun n hn=>rfl,fun n hn=>kat_left _ _ _ (by omega)⟩
 have hb:β' bl.length=b:=if_pos rfl
 refine⟨xs++ys,β', by simp [h0,g0],fun n=>?_,?_,fun n ψ hn=>?_,fun i k hk=>?_⟩
 ·rcases kat_or xs ys n with e|⟨j,e⟩
  ·rw [e];exact h1 n
  ·rw [e];exact g1 j
 ·rw [List.map_append,SV.sameL s h.1,← h2]
  congr 1
  show [Value.slice (some ⟨b,0,none⟩) len cap]=[.slice (some ⟨β' bl.length,0,none⟩) len cap]
  rw [hb]
 ·rcases Nat.lt_or_ge n Φ.length with hn'|hn'
  ·rw [nth_eq,List.getElem?_append_left hn'] at hn
   rw [kat_left _ _ _ (by omega)]
   exact h3 n ψ (by rw [nth_eq];exact hn)
  ·rw [nth_eq,List.getElem?_append_right hn'] at hn
   have e:kat (xs++ys) n=kat ys (n-Φ.length):=by
    rw [← kat_app xs ys (n-Φ.length)]
    congr 1
    omega
   rw [e]
   exact g3 _ ψ (by rw [nth_eq];exact hn)
 ·rcases nth_snoc hk with hk|⟨rfl,rfl⟩
  ·obtain⟨g,g'⟩:=h4 i k hk
   exact⟨g,by rw [show β' i=β i from if_neg (Nat.ne_of_lt (nth_lt hk))];exact g'.env (At.sameL s (List.all_eq_true.1 h.2 k (nth_mem hk)))⟩
  ·obtain⟨r,B⟩:=B
   refine⟨⟨rfl,rfl,rfl⟩,r,?_,fun h=>(by cases h),fun N h=>(by cases h),fun C hC=>(nomatch (show (none:Option (Array Value))=some C from hC))⟩
   rw [hb,B]
   have key:∀ (l:List Value) (x0:List Value),(vs x0.length l.length).map (At.d ⟨β', κ,kat (x0++l)⟩)=l:=by
    intro l
    induction l with
    | nil=>intro x0;rfl
    | cons x l ih =>
     intro x0
     have h5:=ih (x0++[x])
     rw [List.length_append,List.append_assoc] at h5
     simp only [List.length_cons,List.length_nil,Nat.zero_add,List.singleton_append] at h5
     show kat (x0++x::l) x0.length::(vs (x0.length+1) l.length).map _=x::l
     rw [h5]
     congr 1
     exact kat_app x0 (x::l) 0
   have k2:=key ys xs
   rw [h0] at k2
   show some (Obj.cells ⟨ys++r⟩ T (0,0))=some (.cells ⟨(vs Φ.length n).map _++r⟩ T (0,0))
   rw [← hn,← g0,k2]
end
end Go.Proofs.YtcdbmjnipaochaaGreat.Eng
namespace Go.Proofs.YtcdbmjnipaochaaGreat
open Go.RowKit Rgn
variable {S:Nat→Prop} {W:World}
theorem eRatR{v0:Value}(x:Rat)(t0:(RatP x).p S v0 W):Calls Tryz.prog 224 #[v0] W (Ret (RatP x) S W):=by
 obtain⟨b1,rfl,L1,F1⟩:=RatP.elim t0
 replace L1:Amb S W b1:=.inl L1
 have bel:=b0 W
 go_enter Tryz.func224,Tryz.ntmps224
 refine gs 1 (Amb S W) fun _ K2=>?_
 refine .mc rfl ?_
 refine .dk (fun u=>pt b1::U::u 0::us 4) K2 bel fun u1 w1 D bel=>?_
 have E1_0:=D.q 0
 replace F1:=D.o L1 F1
 clear D
 refine wp_seq_k fun _ K3=>?_
 refine gs 2 (Amb S W) fun _ K4=>?_
 refine .mz rfl 0 (V:=pt b1) rfl ?_
 refine .e rfl (V:=.bool false) (fun H=>x_pnE (H.g 3 0) (H.c _)) ?_
 refine .dk (fun u=>pt b1::U::u1 0::u 0::u 1::U::U::[]) K4 bel fun u2 w2 D bel=>?_
 have E2_1:=D.q 1
 replace F1:=D.o L1 F1
 clear D
 refine wp_cond_false (by exact E2_1) ?_
 refine wp_skip ?_
 refine K3 _ _ ?_
 refine gs 2 (Amb S W) fun _ K5=>?_
 refine .mz rfl 0 (V:=pt b1) rfl ?_
 refine .mv rfl 0 ?_
 refine .dk (fun u=>pt b1::U::u 1::u2 0::u2 1::U::u 0::[]) K5 bel fun u3 w3 D bel=>?_
 have E3_1:=D.q 1
 replace F1:=D.o L1 F1
 clear D
 refine wp_ret ?_
 refine ret_ok rfl (by exact results_tmp' rfl (by exact E3_1)) ⟨_,rfl,?_,bel⟩
 exact (VP.at F1 L1)
end Go.Proofs.YtcdbmjnipaochaaGreat
namespace Go.Proofs.YtcdbmjnipaochaaGreat
open Go.RowKit Rgn
theorem eRat{S:Nat→Prop}{W:World}{v0:Value}(x:Rat)(t0:(RatN x).p S v0 W):Calls Tryz.prog 224 #[v0] W (Ret (RatP x) S W):=by
 rcases t0 with⟨rfl,rfl⟩|t0
 ·exact eRatN
 ·exact eRatR x t0
end Go.Proofs.YtcdbmjnipaochaaGreat
namespace Go.Proofs.YtcdbmjnipaochaaGreat
open Go.RowKit Rgn Eng
variable {S:Nat→Prop} {W:World}
theorem eMul{v0 v1:Value}(x y:Rat)(t0:(RatN x).p S v0 W)(t1:(RatN y).p S v1 W)(p0:ht x+ht y≤68719476736):Calls Tryz.prog 225 #[v0,v1] W (Ret (RatP (x*y)) S W):=by
 refine Run.goP (S:=S) ((Pack.nil.s spRatN t0).s spRatN t1) Tryz.func225 rfl ?_
 refine Run.cR spRat (fun _ _ _ H=>eRat x (H.f 0)) ?_
 refine Run.cR spRat (fun _ _ _ H=>eRat y (H.f 1)) ?_
 refine Run.cO 0 softRat (fun _ _ _ H=>qMul x y (RatP.blk (H.oz 0)) (anyV (H.f 2)) (anyV (H.f 3)) p0) ?_
 exact Run.rR (fun _ _ _ H=>H.s 0)
theorem eParts{v0:Value}(x:Cx)(t0:(NumP x).p S v0 W):Calls Tryz.prog 141 #[v0] W (Ret (VP.tup (RatP x.re) (RatP x.im)) S W):=by
 refine Run.goP (S:=S) (Pack.nil.s spNum t0) Tryz.func141 rfl ?_
 refine Run.dr ?_
 refine RunD.cR spRat (fun _ _ _ H=>eRat x.re (H.f 0)) ?_
 refine RunD.cR spRat (fun _ _ _ H=>eRat x.im (H.f 1)) ?_
 refine RunD.en ?_
 exact Run.rR (fun _ _ _ H=>⟨_,_,rfl,(H.f 2),(H.f 3)⟩)
theorem eZero{v0:Value}(x:Cx)(t0:(NumP x).p S v0 W):Calls Tryz.prog 227 #[v0] W (RetV (.bool x.zero) W):=by
 refine Run.goP (S:=S) (Pack.nil.s spNum t0) Tryz.func227 rfl ?_
 refine Run.cR spRat (fun _ _ _ H=>eRat x.re (H.f 0)) ?_
 refine Run.cV [.int .i64 x.re.num.sign] kb (fun _ _ _ H=>qSign x.re (H.f 2)) ?_
 refine Run.ic x.re.num.sign 0 (x.re.num.sign == 0) ?_
 refine (Bool.eq_false_or_eq_true (x.re.num.sign == 0)).elim (fun c1=>?_) (fun c1=>?_)
 · refine Run.kn c1 ?_
   refine Run.cR spRat (fun _ _ _ H=>eRat x.im (H.f 1)) ?_
   refine Run.cV [.int .i64 x.im.num.sign] kb (fun _ _ _ H=>qSign x.im (H.f 3)) ?_
   refine Run.ic x.im.num.sign 0 (x.im.num.sign == 0) ?_
   exact Run.rV (zero_T c1)
 · refine Run.kn c1 ?_
   exact Run.rV (zero_F c1)
theorem eAdd{v0 v1:Value}(x y:Cx)(t0:(NumP x).p S v0 W)(t1:(NumP y).p S v1 W)(p0:ht x.re+ht x.im+ht y.re+ht y.im≤17179869184):Calls Tryz.prog 95 #[v0,v1] W (Ret (NumP (x.add y)) S W):=by
 refine Run.goP (S:=S) ((Pack.nil.s spNum t0).s spNum t1) Tryz.func95 rfl ?_
 refine Run.dr ?_
 refine RunD.cR spRat (fun _ _ _ H=>eRat x.re (H.f 0)) ?_
 refine RunD.cR spRat (fun _ _ _ H=>eRat y.re (H.f 2)) ?_
 refine RunD.cO 3 softRat (fun _ _ _ H=>qAdd x.re y.re (RatP.blk (H.oz 3)) (anyV (H.f 4)) (anyV (H.f 5)) (by omega)) ?_
 refine RunD.cR spRat (fun _ _ _ H=>eRat x.im (H.f 1)) ?_
 refine RunD.cR spRat (fun _ _ _ H=>eRat y.im (H.f 3)) ?_
 refine RunD.cO 4 softRat (fun _ _ _ H=>qAdd x.im y.im (RatP.blk (H.oz 4)) (anyV (H.f 7)) (anyV (H.f 8)) (by omega)) ?_
 refine RunD.en ?_
 exact Run.rR (fun _ _ _ H=>NumP.mk (RatP.n (H.s 3)) (RatP.n (H.s 4)))
theorem eSub{v0 v1:Value}(x y:Cx)(t0:(NumP x).p S v0 W)(t1:(NumP y).p S v1 W)(p0:ht x.re+ht x.im+ht y.re+ht y.im≤17179869184):Calls Tryz.prog 226 #[v0,v1] W (Ret (NumP (x.sub y)) S W):=by
 refine Run.goP (S:=S) ((Pack.nil.s spNum t0).s spNum t1) Tryz.func226 rfl ?_
 refine Run.dr ?_
 refine RunD.cR spRat (fun _ _ _ H=>eRat x.re (H.f 0)) ?_
 refine RunD.cR spRat (fun _ _ _ H=>eRat y.re (H.f 2)) ?_
 refine RunD.cO 3 softRat (fun _ _ _ H=>qSub x.re y.re (RatP.blk (H.oz 3)) (anyV (H.f 4)) (anyV (H.f 5)) (by omega)) ?_
 refine RunD.cR spRat (fun _ _ _ H=>eRat x.im (H.f 1)) ?_
 refine RunD.cR spRat (fun _ _ _ H=>eRat y.im (H.f 3)) ?_
 refine RunD.cO 4 softRat (fun _ _ _ H=>qSub x.im y.im (RatP.blk (H.oz 4)) (anyV (H.f 7)) (anyV (H.f 8)) (by omega)) ?_
 refine RunD.en ?_
 exact Run.rR (fun _ _ _ H=>NumP.mk (RatP.n (H.s 3)) (RatP.n (H.s 4)))
theorem eNMul{v0 v1:Value}(x y:Cx)(t0:(NumP x).p S v0 W)(t1:(NumP y).p S v1 W)(p0:ht x.re+ht x.im+ht y.re+ht y.im≤17179869184):Calls Tryz.prog 96 #[v0,v1] W (Ret (NumP (x.mul y)) S W):=by
 have h1:=ht_mul x.re y.re
 have h2:=ht_mul x.im y.im
 have h3:=ht_mul x.re y.im
 have h4:=ht_mul x.im y.re
 refine Run.goP (S:=S) ((Pack.nil.s spNum t0).s spNum t1) Tryz.func96 rfl ?_
 refine Run.dr ?_
 refine RunD.cR spRat (fun _ _ _ H=>eMul x.re y.re (H.f 0) (H.f 2) (by omega)) ?_
 refine RunD.cR spRat (fun _ _ _ H=>eMul x.im y.im (H.f 1) (H.f 3) (by omega)) ?_
 refine RunD.cO 3 softRat (fun _ _ _ H=>qSub (x.re*y.re) (x.im*y.im) (RatP.blk (H.oz 3)) (anyV (H.f 4)) (anyV (H.f 5)) (by omega)) ?_
 refine RunD.cR spRat (fun _ _ _ H=>eMul x.re y.im (H.f 0) (H.f 3) (by omega)) ?_
 refine RunD.cR spRat (fun _ _ _ H=>eMul x.im y.re (H.f 1) (H.f 2) (by omega)) ?_
 refine RunD.cO 4 softRat (fun _ _ _ H=>qAdd (x.re*y.im) (x.im*y.re) (RatP.blk (H.oz 4)) (anyV (H.f 7)) (anyV (H.f 8)) (by omega)) ?_
 refine RunD.en ?_
 exact Run.rR (fun _ _ _ H=>NumP.mk (RatP.n (H.s 3)) (RatP.n (H.s 4)))
theorem eConj{v0:Value}(x:Cx)(t0:(NumP x).p S v0 W)(p0:ht x.re+ht x.im≤8589934592):Calls Tryz.prog 188 #[v0] W (Ret (NumP x.conj) S W):=by
 refine Run.goP (S:=S) (Pack.nil.s spNum t0) Tryz.func188 rfl ?_
 refine Run.dr ?_
 refine RunD.cR spRat (fun _ _ _ H=>eRat x.re (H.f 0)) ?_
 refine RunD.cR spRat (fun _ _ _ H=>eRat x.im (H.f 1)) ?_
 refine RunD.cO 2 softRat (fun _ _ _ H=>qNeg x.im (RatP.blk (H.oz 2)) (anyV (H.f 3)) (by omega)) ?_
 refine RunD.en ?_
 exact Run.rR (fun _ _ _ H=>NumP.mk (RatP.n (H.f 2)) (RatP.n (H.s 2)))
theorem eInt(m n:Int)(p0:-9223372036854775808≤m)(p1:m≤9223372036854775807)(p2:-9223372036854775808≤n)(p3:n≤9223372036854775807):Calls Tryz.prog 234 #[.int .i64 m,.int .i64 n] W (Ret (NumP (Cx.ofInt m n)) S W):=by
 refine Run.goP (S:=S) ((Pack.nil.k (.int .i64 m) [.int .i64 m] kb).k (.int .i64 n) [.int .i64 n] kb) Tryz.func234 rfl ?_
 refine Run.cR spRat (fun _ _ _ H=>qNewRat m 1 p0 p1 (by decide) (by decide) (by decide)) ?_
 refine Run.cR spRat (fun _ _ _ H=>qNewRat n 1 p2 p3 (by decide) (by decide) (by decide)) ?_
 exact Run.rR (fun _ _ _ H=>VPe (φ:=NumP) (num_int m n) (NumP.mk (RatP.n (H.f 0)) (RatP.n (H.f 1))))
end Go.Proofs.YtcdbmjnipaochaaGreat
namespace Go.Proofs.YtcdbmjnipaochaaGreat
open Go.RowKit Rgn
variable {S:Nat→Prop} {W:World}
theorem eFrac{v0:Value}(x:Rat)(t0:(RatN x).p S v0 W)(p0:ht x≤68719476736):Calls Tryz.prog 144 #[v0] W (RetV (.tuple #[.agg #[.bool (fcut x).a.n,.string (fcut x).a.s,.bool (fcut x).b.n,.string (fcut x).b.s],.int .i64 (ferr x)]) W):=by
 have F_v0:(RatN x).p (Amb S W) v0 W:=(RatN x).mono (fun _ _ h=>.inl h) t0
 have n0:=hi_num x
 have n2:=hi_den x
 have bel:=b0 W
 go_enter Tryz.func144,Tryz.ntmps144
 refine gs 2 (Amb S W) fun _ K1=>?_
 refine .al rfl zF ?_
 refine .mc rfl ?_
 refine .dk (fun u=>v0::U::u 0::u 1::us 29) K1 bel fun u1 w1 D bel=>?_
 obtain⟨b2,E1_0,A2,B2⟩:=D.nw 0
 have E1_1:=D.q 1
 replace F_v0:=D.gr (RatN x) F_v0
 clear D
 refine wp_seq_k fun _ K3=>?_
 refine wp_region_list ?_
 refine wpT_val rfl (ex_move rfl) ?_
 refine wpT_callR (args:=#[v0]) (φ:=(RatP x)) (S:=Amb S W) rfl (ex_call rfl rfl Tryz.func224 (by kernel_rfl) (by kernel_rfl) (by simp only [List.map_toArray,List.map_cons,List.map_nil];rfl)) (eRat (x:=x) F_v0 ) fun vw4 w4 fw4 ow4=>?_
 obtain⟨b5,rfl,L5,F5⟩:=RatP.elim fw4
 replace L5:Amb S W b5:=L5.elim id (fun h=>.inr (Nat.le_trans bel.size h))
 replace B2:=(ow4.block b2 (lt_of B2)).trans B2
 replace F_v0:=(RatN x).grow (Rgn.Below.growS ow4 (Nat.le_refl _) _) F_v0
 replace bel:=bel.trans (ow4.mono bel.size)
 refine wpT_val rfl (ex_assign rfl) ?_
 refine wpList_nil ?_
 show _
 refine K3 _ _ ?_
 refine gs 8 (Amb S W) fun _ K6=>?_
 refine .mz rfl 0 (V:=pt b5) rfl ?_
 refine .cR rfl [] Tryz.func138 (fun H=>⟨_,ar1 (H.g 8 0),qNum _ (H.was _ [] (VP.at F5 L5)) (by omega)⟩) ?_
 refine .cR rfl [1] Tryz.func253 (fun H=>⟨_,ar1 (H.r 9 1),bBytes _ (IntO.p (SV.sub [1] (H.a 1 rfl) rfl)) (by omega)⟩) ?_
 refine .mz rfl 0 (V:=pt b5) rfl ?_
 refine .cR rfl [] Tryz.func139 (fun H=>⟨_,ar1 (H.g 11 3),qDenom _ (H.was _ [] (VP.at F5 L5)) (by omega)⟩) ?_
 refine .cR rfl [4] Tryz.func253 (fun H=>⟨_,ar1 (H.r 12 4),bBytes _ (IntO.p (SV.sub [4] (H.a 4 rfl) rfl)) (by omega)⟩) ?_
 refine .mn rfl 2 [1,2] ?_
 refine .mn rfl 5 [4,5] ?_
 refine .dk (fun u=>pt b5::U::u1 0::u1 1::u 6::u 7::v0::pt b5::sq u 0 6 (us 19)) K6 bel fun u3 w3 D bel=>?_
 obtain⟨x7,E3_6,F_x7⟩:∃ x_,(u3 6).v=x_∧(BytP x.num.natAbs).p (Amb S W) x_ w3:=⟨_,rfl,D.rr 6⟩
 obtain⟨x8,E3_7,F_x8⟩:∃ x_,(u3 7).v=x_∧(BytP ((x.den:Int).natAbs)).p (Amb S W) x_ w3:=⟨_,rfl,D.rr 7⟩
 replace B2:=D.k B2
 replace F5:=D.o L5 F5
 clear D
 refine wp_seq_k fun _ K9=>?_
 rcases Bool.eq_false_or_eq_true (decide (1024<(((bS x.num.natAbs).size:Nat):Int))) with c11|c11
 ·
  have dc11:=of_decide_eq_true c11
  refine gs 8 (Amb S W) fun _ K10=>?_
  refine .mz rfl 4 E3_6 ?_
  refine .e rfl (V:=.int .i64 (((bS x.num.natAbs).size:Nat):Int)) (fun H=>by have e_:=(H.g 14 0);obtain⟨_,_,_,_,_,hv_,_⟩:=(show Byts _ _ _ from (VP.any _ (H.was _ [] F_x7)));rw [hv_] at e_;rw [bS_len];clear H;go_simp) ?_
  refine .e rfl (V:=.bool true) (fun H=>x_cm (H.g 15 1) (H.c _) c11) ?_
  refine .mv rfl 2 ?_
  refine .sk rfl 3 ?_
  refine .sk rfl 3 ?_
  refine .sk rfl 3 ?_
  refine .e rfl (fun H=>x_pkT (H.g 17 3) (H.c _)) ?_
  refine .dk (fun u=>pt b5::U::u1 0::u1 1::u3 6::u3 7::v0::pt b5::sq u3 0 6 (sq u 0 8 (us 11))) K10 bel fun u4 w4 D bel=>?_
  have E4_7:=D.q 7
  replace B2:=D.k B2
  replace F5:=D.o L5 F5
  replace F_x7:=D.gr (BytP x.num.natAbs) F_x7
  replace F_x8:=D.gr (BytP ((x.den:Int).natAbs)) F_x8
  clear D
  refine wp_cond_true (by exact E4_7) ?_
  refine gs1 3 (Amb S W) 1 B2 fun _ K12=>?_
  refine .e rfl (V:=.agg zF) (fun H=>by clear H;go_simp) ?_
  refine .s1 rfl B2 (fun H=>⟨H.z 2 E1_0,H.g 22 0⟩) ?_
  refine .mc rfl ?_
  refine .d1 (fun u=>pt b5::U::u1 0::u 2::u3 6::u3 7::v0::pt b5::sq u3 0 6 (sq u4 0 8 (u 0::us 10))) K12 bel A2 fun u5 w5 D bel=>?_
  have E5_2:=D.q 2
  replace B2:=D.ol 1
  clear D
  refine wp_ret ?_
  refine ret_ok rfl (by exact results_mix rfl (by exact E1_0) B2 Tryz.underlying25 rfl (by kernel_rfl) (by exact E5_2)) (RetV.mk ?_ bel)
  exact congrArg Ending.returned (fcut_no (fcut_2 c11))
 ·
  have dc11:=of_decide_eq_false c11
  refine gs 8 (Amb S W) fun _ K10=>?_
  refine .mz rfl 4 E3_6 ?_
  refine .e rfl (V:=.int .i64 (((bS x.num.natAbs).size:Nat):Int)) (fun H=>by have e_:=(H.g 14 0);obtain⟨_,_,_,_,_,hv_,_⟩:=(show Byts _ _ _ from (VP.any _ (H.was _ [] F_x7)));rw [hv_] at e_;rw [bS_len];clear H;go_simp) ?_
  refine .e rfl (V:=.bool false) (fun H=>x_cm (H.g 15 1) (H.c _) c11) ?_
  refine .mv rfl 2 ?_
  refine .mz rfl 5 E3_7 ?_ (hg:=gq 3 rfl)
  refine .e rfl (V:=.int .i64 (((bS ((x.den:Int).natAbs)).size:Nat):Int)) (fun H=>by have e_:=(H.g 18 4);obtain⟨_,_,_,_,_,hv_,_⟩:=(show Byts _ _ _ from (VP.any _ (H.was _ [] F_x8)));rw [hv_] at e_;rw [bS_len];clear H;go_simp) ?_ (hg:=gq 3 rfl)
  refine .e rfl (V:=.bool (decide (1024<(((bS ((x.den:Int).natAbs)).size:Nat):Int)))) (fun H=>x_cmp (H.g 19 5) (H.c _)) ?_ (hg:=gq 3 rfl)
  refine .e rfl (fun H=>x_pkF (H.g 17 3) (H.g 20 6)) ?_
  refine .dk (fun u=>pt b5::U::u1 0::u1 1::u3 6::u3 7::v0::pt b5::sq u3 0 6 (sq u 0 8 (us 11))) K10 bel fun u4 w4 D bel=>?_
  have E4_7:=D.q 7
  replace B2:=D.k B2
  replace F5:=D.o L5 F5
  replace F_x7:=D.gr (BytP x.num.natAbs) F_x7
  replace F_x8:=D.gr (BytP ((x.den:Int).natAbs)) F_x8
  clear D
  rcases Bool.eq_false_or_eq_true (decide (1024<(((bS ((x.den:Int).natAbs)).size:Nat):Int))) with c13|c13
  ·
   refine wp_cond_true ((E4_7).trans (congrArg Value.bool c13)) ?_
   have dc13:=of_decide_eq_true c13
   refine gs1 3 (Amb S W) 1 B2 fun _ K14=>?_
   refine .e rfl (V:=.agg zF) (fun H=>by clear H;go_simp) ?_
   refine .s1 rfl B2 (fun H=>⟨H.z 2 E1_0,H.g 22 0⟩) ?_
   refine .mc rfl ?_
   refine .d1 (fun u=>pt b5::U::u1 0::u 2::u3 6::u3 7::v0::pt b5::sq u3 0 6 (sq u4 0 8 (u 0::us 10))) K14 bel A2 fun u5 w5 D bel=>?_
   have E5_2:=D.q 2
   replace B2:=D.ol 1
   clear D
   refine wp_ret ?_
   refine ret_ok rfl (by exact results_mix rfl (by exact E1_0) B2 Tryz.underlying25 rfl (by kernel_rfl) (by exact E5_2)) (RetV.mk ?_ bel)
   exact congrArg Ending.returned (fcut_no (fcut_3 c13))
  ·
   refine wp_cond_false ((E4_7).trans (congrArg Value.bool c13)) ?_
   have dc13:=of_decide_eq_false c13
   refine wp_skip ?_
   refine K9 _ _ ?_
   refine gd1 12 (Amb S W) 10 B2 fun _ K15=>?_
   refine .mz rfl 0 (V:=pt b5) rfl ?_
   refine .cK rfl Tryz.func91 (fun H=>⟨_,ar1 (H.g 23 0),qSign _ (VP.any _ (H.was _ [] (VP.at F5 L5)))⟩) ?_
   refine .e rfl (V:=.bool (decide (x.num.sign<0))) (fun H=>x_cmp (H.g 24 1) (H.c _)) ?_
   refine .mz rfl 4 E3_6 ?_
   refine Go2.eq (i:=4) rfl (G0 rfl) (V:=.string (bS x.num.natAbs)) (by intro u μ ρ H;exact ex_conv rfl (H.g 26 3) (Byts.str (VP.any _ (H.was _ [] F_x7)))) ?_
   refine .e rfl (V:=.agg #[.bool (decide (x.num.sign<0)),.string (bS x.num.natAbs)]) (fun H=>by have e25:=H.g 25 2;have e27:=H.g 27 4;clear H;go_simp) ?_
   refine .mz rfl 5 E3_7 ?_
   refine Go2.eq (i:=7) rfl (G0 rfl) (V:=.string (bS ((x.den:Int).natAbs))) (by intro u μ ρ H;exact ex_conv rfl (H.g 29 6) (Byts.str (VP.any _ (H.was _ [] F_x8)))) ?_
   refine .e rfl (V:=.agg #[.bool false,.string (bS ((x.den:Int).natAbs))]) (fun H=>by have e30:=H.g 30 7;clear H;go_simp) ?_
   refine .e rfl (V:=.agg #[.bool (decide (x.num.sign<0)),.string (bS x.num.natAbs),.bool false,.string (bS ((x.den:Int).natAbs))]) (fun H=>by have e28:=H.g 28 5;have e31:=H.g 31 8;clear H;go_simp) ?_
   refine .s1 rfl B2 (fun H=>⟨H.z 2 E1_0,H.g 32 9⟩) ?_
   refine .mc rfl ?_
   refine .d1 (fun u=>pt b5::U::u1 0::u 11::u3 6::u3 7::v0::pt b5::sq u3 0 6 (sq u4 0 8 (U::sq u 0 10 []))) K15 bel A2 fun u6 w6 D bel=>?_
   have E6_11:=D.q 11
   replace B2:=D.ol 10
   clear D
   refine wp_ret ?_
   refine ret_ok rfl (by exact results_mix rfl (by exact E1_0) B2 Tryz.underlying25 rfl (by kernel_rfl) (by exact E6_11)) (RetV.mk ?_ bel)
   exact congrArg Ending.returned (ecut_yes (fcut_1 c11 c13))
theorem eWhole(x:Int)(p0:hi x≤1099511627000):Calls Tryz.prog 251 #[wV x] W (Ret (IntO x) S W):=by
 have q0:=hi_bl x
 have q1:=hi_nat x.natAbs
 have bel:=b0 W
 go_enter Tryz.func251,Tryz.ntmps251
 refine gs 2 (Amb S W) fun _ K1=>?_
 refine .bx rfl (fun H=>H.v 0 (wV x)) ?_
 refine .mc rfl ?_
 refine .dk (fun u=>wV x::u 0::u 1::us 12) K1 bel fun u1 w1 D bel=>?_
 obtain⟨b2,E1_0,A2,B2⟩:=D.nw 0
 have E1_1:=D.q 1
 clear D
 refine gs 6 (Amb S W) fun _ K3=>?_
 refine .al rfl zI ?_
 refine .fz rfl 1 1 E1_0 ?_
 refine .lc rfl 1 B2 ?_ (V:=.string (bS x.natAbs))
 refine Go2.grow (i:=3) rfl (G0 rfl) (.val 3 [] (BytP x.natAbs)) (fun u μ ρ H=>by have e6:=H.g 6 2;obtain⟨v_,w_,hr_,hm_,hb_⟩:=conv_byt x.natAbs μ (by omega);exact⟨v_,w_,ex_conv rfl e6 hr_,SP.bytVal hm_,hb_⟩) ?_
 refine .cO rfl 0 Tryz.func177 (fun H h0 hz=>⟨_,ar2 (H.p 4 0 h0) (H.r 7 3),bSetBytes (n:=_) (IntBlk.of hz) (SV.any (H.a 3 rfl)) (by omega)⟩) ?_
 refine .mo rfl 4 ?_
 refine .dk (fun u=>wV x::u1 0::u1 1::u 5::sq u 0 5 (us 6)) K3 bel fun u2 w2 D bel=>?_
 obtain⟨b4,E2_5,A4,F4⟩:=D.ow 5
 have N2_4:=D.n1 0 (lt_of B2) ((D.a 5 rfl).1.symm.trans E2_5)
 replace B2:=D.k B2
 have L4:Amb S W b4:=.inr A4
 clear D
 refine wp_seq_k fun _ K5=>?_
 refine gs 2 (Amb S W) fun _ K6=>?_
 refine .fz rfl 1 0 E1_0 ?_
 refine .lc rfl 0 B2 ?_ (V:=.bool (decide (x<0)))
 refine .dk (fun u=>wV x::u1 0::u1 1::u2 5::sq u2 0 5 (u 0::u 1::us 4)) K6 bel fun u3 w3 D bel=>?_
 have E3_1:=D.q 1
 replace F4:=D.o L4 F4
 clear D
 rcases Bool.eq_false_or_eq_true (decide (x<0)) with c7|c7
 ·
  refine wp_cond_true ((E3_1).trans (congrArg Value.bool c7)) ?_
  have dc7:=of_decide_eq_true c7
  refine go2_seqT 2 1 rfl (Amb S W) [] [] (Olds.nil _) (by kernel_rfl) ?_
  refine .mz rfl 3 E2_5 ?_
  refine .mz rfl 3 E2_5 ?_
  refine .dT (fun u=>wV x::u1 0::u1 1::u2 5::sq u2 0 5 (u3 0::u3 1::sq u 0 3 (U::[]))) bel.size _ rfl fun u4 w4 D=>?_
  have E4_0:=D.q 0
  have E4_1:=D.q 1
  replace F4:=D.o L4 F4
  replace bel:=D.d.base.bel0 bel bel.size
  clear D
  refine wpT_callO (args:=#[pt b4,pt b4]) rfl (ex_call rfl rfl Tryz.func207 (by kernel_rfl) (by kernel_rfl) (by simp only [List.map_toArray,List.map_cons,List.map_nil];show #[(u4 0).v,(u4 1).v]=#[pt b4,pt b4];rw [E4_0,E4_1])) (bNeg (z:=b4) (x:=(x.natAbs:Int)) (IntO.blk F4) (IntO.p (VP.any _ F4)) (by omega)) fun w8 fw8 ow8=>?_
  have sw8:Soft w4 b4∨Local w4 b4:=.inl (IntO.soft F4)
  have F4:=fw8
  have L4:Amb S W b4:=.inr A4
  replace bel:=bel.trans (only_below' ow8 A4 bel.size)
  refine wpList_nil ?_
  show _
  refine K5 _ _ ?_
  refine gs 2 (Amb S W) fun _ K9=>?_
  refine .mz rfl 3 E2_5 ?_
  refine .mv rfl 0 ?_
  refine .dk (fun u=>wV x::u1 0::u 1::u2 5::sq u2 0 5 (u3 0::u3 1::u4 0::u4 1::.pointer (some ⟨b4,0,none⟩)::u 0::[])) K9 bel fun u5 w5 D bel=>?_
  have E5_1:=D.q 1
  replace F4:=D.o L4 F4
  clear D
  refine wp_ret ?_
  refine ret_ok rfl (by exact results_tmp' rfl (by exact E5_1)) ⟨_,rfl,?_,bel⟩
  exact into_eq (num_n dc7) (VP.at F4 L4)
 ·
  refine wp_cond_false ((E3_1).trans (congrArg Value.bool c7)) ?_
  have dc7:=of_decide_eq_false c7
  refine wp_skip ?_
  refine K5 _ _ ?_
  refine gs 2 (Amb S W) fun _ K10=>?_
  refine .mz rfl 3 E2_5 ?_
  refine .mv rfl 0 ?_
  refine .dk (fun u=>wV x::u1 0::u 1::u2 5::sq u2 0 5 (u3 0::u3 1::U::U::U::u 0::[])) K10 bel fun u6 w6 D bel=>?_
  have E6_1:=D.q 1
  replace F4:=D.o L4 F4
  clear D
  refine wp_ret ?_
  refine ret_ok rfl (by exact results_tmp' rfl (by exact E6_1)) ⟨_,rfl,?_,bel⟩
  exact into_eq (num_p dc7) (VP.at F4 L4)
end Go.Proofs.YtcdbmjnipaochaaGreat
namespace Go.Proofs.YtcdbmjnipaochaaGreat
open Go.RowKit Rgn Eng
variable {S:Nat→Prop} {W:World}
theorem eTold{v0:Value}(x:Cx)(t0:(NumP x).p S v0 W)(p0:ht x.re+ht x.im≤68719476736):Calls Tryz.prog 218 #[v0] W (RetV (.tuple #[rgV (gcut x),.int .i64 (gerr x)]) W):=by
 refine Run.goP (S:=S) (Pack.nil.s spNum t0) Tryz.func218 rfl ?_
 refine Run.cV ((rfC (fcut x.re)).toList++[.int .i64 (ferr x.re)]) (.tup [.agg (ks 0 4),.o (.k 4)]) (fun _ _ _ H=>eFrac x.re (H.f 0) (by omega)) ?_
 refine Run.cV ((rfC (fcut x.im)).toList++[.int .i64 (ferr x.im)]) (.tup [.agg (ks 0 4),.o (.k 4)]) (fun _ _ _ H=>eFrac x.im (H.f 1) (by omega)) ?_
 refine Run.ic (ferr x.re) 0 ((ferr x.re) != 0) ?_
 refine (Bool.eq_false_or_eq_true ((ferr x.re) != 0)).elim (fun c1=>?_) (fun c1=>?_)
 · refine Run.kn c1 ?_
   exact Run.rV (gcut_no (.inl c1))
 · refine Run.kn c1 ?_
   refine Run.ic (ferr x.im) 0 ((ferr x.im) != 0) ?_
   refine (Bool.eq_false_or_eq_true ((ferr x.im) != 0)).elim (fun c2=>?_) (fun c2=>?_)
   · refine Run.kn c2 ?_
     exact Run.rV (gcut_no (.inr c2))
   · refine Run.kn c2 ?_
     exact Run.rV (gcut_yes c1 c2)
theorem eRatOk(x:Rat)(p0:fits (rf x)=true):Calls Tryz.prog 136 #[fV x] W (Ret (RatP x) S W):=by
 have n0:=hi_num x
 have n2:=hi_den x
 have f0:=efits_le p0
 have f1:ht (Rat.divInt x.num (x.den:Int))≤8200:=by rw [fr_self];exact f0
 have f2:=hi_num (Rat.divInt x.num (x.den:Int))
 have f3:=hi_den (Rat.divInt x.num (x.den:Int))
 have f4:=fits_two p0
 refine Run.goP (S:=S) (Pack.nil.k (fV x) (fC x).toList (.s (.agg (ks 0 4)))) Tryz.func136 rfl ?_
 refine Run.cV [.bool (wformed (rw x.num))] kb (fun _ _ _ H=>eFormed (rw x.num)) ?_
 refine Run.kn (wformed_rw x.num) ?_
 refine Run.cV [.bool (wformed (rw (x.den:Int)))] kb (fun _ _ _ H=>eFormed (rw (x.den:Int))) ?_
 refine Run.kn (wformed_rw (x.den:Int)) ?_
 refine Run.kn (den_nn x) ?_
 refine Run.bi (op:=.eql) (t:=9) (a:=.string (bS (x.den:Int).natAbs)) (c:=.string ⟨#[]⟩) [] (cb false) (fun w o ρ u v t' ho hx hy=>ex_seq Tryz.underlying9 _ (den_na x) ho hx hy) ?_
 refine Run.sl (bS x.num.natAbs) 9 Tryz.underlying9 ?_
 refine Run.ik .gtr (((bS x.num.natAbs).size:Nat):Int) 1024 false (congrArg some (decide_eq_false (show ¬ (1024:Int)<(((bS x.num.natAbs).size:Nat):Int) by have:=f4.1;omega))) ?_
 refine Run.sl (bS (x.den:Int).natAbs) 9 Tryz.underlying9 ?_
 refine Run.ik .gtr (((bS (x.den:Int).natAbs).size:Nat):Int) 1024 false (congrArg some (decide_eq_false (show ¬ (1024:Int)<(((bS (x.den:Int).natAbs).size:Nat):Int) by have:=f4.2;omega))) ?_
 refine Run.dr ?_
 refine RunD.cR spInto (fun _ _ _ H=>eWhole x.num (by omega)) ?_
 refine RunD.cR spInto (fun _ _ _ H=>eWhole (x.den:Int) (by omega)) ?_
 refine RunD.en ?_
 refine Run.cO 1 softRat (fun _ _ _ H=>qSetFrac x.num (x.den:Int) (RatP.blk (H.oz 1)) (IntO.p (anyV (H.f 0))) (IntO.p (anyV (H.f 1))) (by omega) (den_ne x)) ?_
 refine Run.se 1 ?_
 refine Run.cR spInto (fun _ _ _ H=>qNum (Rat.divInt x.num (x.den:Int)) (H.s 1) (by omega)) ?_
 refine Run.cV [.int .i64 (icmp (Rat.divInt x.num (x.den:Int)).num x.num)] kb (fun _ _ _ H=>bCmp (Rat.divInt x.num (x.den:Int)).num x.num (IntO.p (H.f 3)) (IntO.p (H.f 0)) (by omega)) ?_
 refine Run.ik .neq (icmp (Rat.divInt x.num (x.den:Int)).num x.num) 0 false (congrArg some (back_num x)) ?_
 refine Run.cR spInto (fun _ _ _ H=>qDenom (Rat.divInt x.num (x.den:Int)) (H.s 1) (by omega)) ?_
 refine Run.cV [.int .i64 (icmp ((Rat.divInt x.num (x.den:Int)).den:Int) (x.den:Int))] kb (fun _ _ _ H=>bCmp ((Rat.divInt x.num (x.den:Int)).den:Int) (x.den:Int) (IntO.p (H.f 4)) (IntO.p (H.f 1)) (by omega)) ?_
 refine Run.ik .neq (icmp ((Rat.divInt x.num (x.den:Int)).den:Int) (x.den:Int)) 0 false (congrArg some (back_den x)) ?_
 have e:RatP x=RatP (Rat.divInt x.num (x.den:Int)):=by rw [fr_self]
 rw [e]
 exact Run.rR (fun _ _ _ H=>H.s 1)
end Go.Proofs.YtcdbmjnipaochaaGreat
namespace Go.Proofs.YtcdbmjnipaochaaGreat
open Go.RowKit Rgn
variable {S:Nat→Prop} {W:World}
theorem eOf(x:Cx)(p0:gfits (rg x)=true):Calls Tryz.prog 241 #[gV x] W (Ret (VP.tup (NumP x) (VP.is (.bool true))) S W):=by
 have bel:=b0 W
 go_enter Tryz.func241,Tryz.ntmps241
 refine gs 3 (Amb S W) fun _ K1=>?_
 refine .bx rfl (fun H=>H.v 0 (gV x)) ?_
 refine .al rfl (#[.pointer none,.pointer none]) ?_
 refine .mc rfl ?_
 refine .dk (fun u=>gV x::sq u 0 3 (us 17)) K1 bel fun u1 w1 D bel=>?_
 obtain⟨b2,E1_0,A2,B2⟩:=D.nw 0
 obtain⟨b3,E1_1,A3,B3⟩:=D.nw 1
 have E1_2:=D.q 2
 have N2_3:=D.n2 0 1 E1_0 E1_1
 clear D
 refine gd 8 (Amb S W) fun _ K4=>?_
 refine .fz rfl 1 0 E1_0 ?_
 refine .lp rfl 0 (fC x.re) B2 ?_
 refine .cR rfl [] Tryz.func136 (fun H=>⟨_,ar1 (H.g 7 1),eRatOk _ (by first|exact (and_tt p0).1|exact (and_tt p0).2)⟩) ?_
 refine .fz rfl 1 4 E1_0 ?_
 refine .lp rfl 3 (fC x.im) B2 ?_
 refine .cR rfl [] Tryz.func136 (fun H=>⟨_,ar1 (H.g 10 4),eRatOk _ (by first|exact (and_tt p0).1|exact (and_tt p0).2)⟩) ?_
 refine .mn rfl 2 [2] ?_
 refine .mn rfl 5 [5] ?_
 refine .dk (fun u=>gV x::sq u1 0 3 (u 6::u 7::sq u 0 6 (us 9))) K4 bel fun u2 w2 D bel=>?_
 obtain⟨b5,E2_6,L5,F5⟩:=RatP.elim (D.rr 6)
 obtain⟨b6,E2_7,L6,F6⟩:=RatP.elim (D.rr 7)
 replace B3:=D.k B3
 clear D
 refine gs1 11 (Amb S W) 9 B3 fun _ K7=>?_
 refine .mz rfl 4 E2_6 ?_
 refine .mz rfl 5 E2_7 ?_
 refine .e rfl (V:=.agg #[pt b5,pt b6]) (fun H=>by have e12:=H.g 12 0;have e13:=H.g 13 1;clear H;go_simp) ?_
 refine .mz rfl 4 E2_6 ?_
 refine .e rfl (V:=.bool true) (fun H=>x_pnN (H.g 15 3) (H.c _)) ?_
 refine .mv rfl 4 ?_
 refine .mz rfl 5 E2_7 ?_ (hg:=gq 5 rfl)
 refine .e rfl (V:=.bool true) (fun H=>x_pnN (H.g 18 6) (H.c _)) ?_ (hg:=gq 5 rfl)
 refine .e rfl (fun H=>x_pkT (H.g 17 5) (H.g 19 7)) ?_
 refine .s1 rfl B3 (fun H=>⟨H.z 2 E1_1,H.g 14 2⟩) ?_
 refine .mv rfl 8 ?_
 refine .d1 (fun u=>gV x::u1 0::u1 1::u 10::u2 6::u2 7::sq u2 0 6 (sq u 0 9 [])) K7 bel A3 fun u3 w3 D bel=>?_
 have E3_10:=D.q 10
 replace B3:=D.ol 9
 replace F5:=D.o L5 F5
 replace F6:=D.o L6 F6
 clear D
 refine wp_ret ?_
 refine ret_ok rfl (by exact results_mix rfl (by exact E1_1) B3 Tryz.underlying145 rfl (by kernel_rfl) (by exact E3_10)) ⟨_,rfl,?_,bel⟩
 exact⟨_,_,rfl,(NumP.mk (RatP.n (VP.at F5 L5)) (RatP.n (VP.at F6 L6))),rfl⟩
end Go.Proofs.YtcdbmjnipaochaaGreat
namespace Go.Proofs.YtcdbmjnipaochaaGreat
open Go.RowKit Rgn Eng
variable {S:Nat→Prop} {W:World}
theorem eReal{v0:Value}(x:Rat)(t0:(RatP x).p S v0 W):Calls Tryz.prog 94 #[v0] W (Ret (NumP ⟨x,0⟩) S W):=by
 refine Run.goP (S:=S) (Pack.nil.s spRat t0) Tryz.func94 rfl ?_
 exact Run.rR (fun _ _ _ H=>NumP.mk (RatP.n (H.f 0)) (RatN.nil rfl))
theorem eSum2{v0:Value}(x y:Rat)(t0:(RatsP [x,y]).p S v0 W)(p0:ht x+ht y≤34359738000):Calls Tryz.prog 219 #[v0] W (Ret (RatP ((0:Rat)+x+y)) Z0 W):=by
 have z0:=ht_zero
 have h1:=ht_add 0 x
 obtain⟨b0,ys0,rfl,B0,F0⟩:=ratsCells2 t0
 refine Run.goP (S:=S) (Pack.nil.bv B0 (some 2) 2 F0) Tryz.func219 rfl ?_
 refine Run.cO 1 softRat (fun _ _ _ H=>qAdd (0:Rat) x (RatP.blk (H.oz 1)) (anyV (H.oz 1)) (anyV (H.f 0)) (by first|omega|(dsimp only at *;omega))) ?_
 refine Run.cO 1 softRat (fun _ _ _ H=>qAdd ((0:Rat)+x) y (RatP.blk (q:=(0:Rat)+x) (H.o 1)) (anyV (H.o 1)) (anyV (H.f 1)) (by first|omega|(dsimp only at *;omega))) ?_
 exact Run.rN (φ:=RatP ((0:Rat)+x+y)) 1 (fun _ _ _ H=>⟨H.ow 1,H.o 1⟩)
end Go.Proofs.YtcdbmjnipaochaaGreat
namespace Go.Proofs.YtcdbmjnipaochaaGreat
open Go.RowKit Rgn
theorem gerr_1{x:Cx}(h:((gerr x) != 0)=true):gfits (rg x)=false:=by
 unfold gerr at h
 cases e:gfits (rg x) with
 | false=>rfl
 | true=>rw [if_pos e] at h;exact absurd h (by decide)
theorem gerr_0{x:Cx}(h:((gerr x) != 0)=false):gfits (rg x)=true:=by
 unfold gerr at h
 cases e:gfits (rg x) with
 | true=>rfl
 | false=>rw [if_neg (by rw [e];decide)] at h;exact absurd h (by decide)
theorem cifits_no{c:Ci}(h:((ferr c.a) != 0)=true∨((gerr c.b) != 0)=true∨((ferr c.c) != 0)=true):cifits (rci c)=false:=by
 show (fits (rf c.a)&&gfits (rg c.b)&&fits (rf c.c))=false
 rcases h with h|h|h
 ·rw [ferr_1 h];simp
 ·rw [gerr_1 h];simp
 ·rw [ferr_1 h];simp
theorem ccut_no{c:Ci}(h:((ferr c.a) != 0)=true∨((gerr c.b) != 0)=true∨((ferr c.c) != 0)=true):Value.tuple #[.agg zCi,.int .i64 4]=.tuple #[rciV (cicut c),.int .i64 (cierr c)]:=by
 unfold cicut cierr
 rw [if_neg (by rw [cifits_no h];decide),if_neg (by rw [cifits_no h];decide)]
theorem ccut_yes{c:Ci}(h1:((ferr c.a) != 0)=false)(h2:((gerr c.b) != 0)=false)(h3:((ferr c.c) != 0)=false):Value.tuple #[.agg #[.bool (fcut c.a).a.n,.string (fcut c.a).a.s,.bool (fcut c.a).b.n,.string (fcut c.a).b.s,.bool (gcut c.b).re.a.n,.string (gcut c.b).re.a.s,.bool (gcut c.b).re.b.n,.string (gcut c.b).re.b.s,.bool (gcut c.b).im.a.n,.string (gcut c.b).im.a.s,.bool (gcut c.b).im.b.n,.string (gcut c.b).im.b.s,.bool (fcut c.c).a.n,.string (fcut c.c).a.s,.bool (fcut c.c).b.n,.string (fcut c.c).b.s],.int .i64 0]=.tuple #[rciV (cicut c),.int .i64 (cierr c)]:=by
 have e:cifits (rci c)=true:=by
  show (fits (rf c.a)&&gfits (rg c.b)&&fits (rf c.c))=true
  rw [ferr_0 h1,gerr_0 h2,ferr_0 h3];rfl
 unfold cicut cierr fcut gcut
 rw [if_pos e,if_pos e,if_pos (ferr_0 h1),if_pos (gerr_0 h2),if_pos (ferr_0 h3)]
def Ci.side(c:Ci)(p:Pn):Int:=if p.inf=true then c.a.num.sign else (c.val p.z).num.sign
def Ci.dot(c d:Ci):Rat:=(c.a*d.c+d.a*c.c)*Rat.divInt (1:Int) (2:Int)-(c.b.mul d.b.conj).re
@[reducible] def Ci.times(c:Ci)(x:Rat):Ci:=⟨c.a*x,c.b.scale x,c.c*x⟩
def Ci.out(c:Ci):Ci:=⟨-c.a,c.b.neg,-c.c⟩
@[reducible] def Ci.rim(c:Ci):Ci:=⟨c.a,c.b.conj.neg,c.c⟩
def Ci.touch(c d:Ci):Bool:=decide (c.dot d=1) && !decide (c=d.out)
theorem dot_eq(c d:Ci):((0:Rat)+c.a*d.c+d.a*c.c)*Rat.divInt (1:Int) (2:Int)-(c.b.mul d.b.conj).re=c.dot d:=by unfold Ci.dot;rw [Rat.zero_add]
theorem neg_one_mul(x:Rat):x*Rat.divInt (-1:Int) (1:Int)=-x:=by
 rw [divInt_one]
 show x*((-1:Int):Rat)=-x
 have:(((-1:Int)):Rat)=-1:=rfl
 rw [this];grind
theorem dot_ht(c d:Ci):ht (c.dot d)≤2*(ht c.a+ht c.b.re+ht c.b.im+ht c.c+(ht d.a+ht d.b.re+ht d.b.im+ht d.c))+3:=by
 have z2:ht (Rat.divInt (1:Int) (2:Int))=3:=by decide
 have h1:=ht_mul c.a d.c
 have h2:=ht_mul d.a c.c
 have h3:=hc_conj d.b
 have h4:=hc_mul c.b d.b.conj
 have h5:=ht_add (c.a*d.c) (d.a*c.c)
 have h6:=ht_mul (c.a*d.c+d.a*c.c) (Rat.divInt (1:Int) (2:Int))
 have h7:=ht_sub ((c.a*d.c+d.a*c.c)*Rat.divInt (1:Int) (2:Int)) (c.b.mul d.b.conj).re
 unfold Ci.dot
 omega
end Go.Proofs.YtcdbmjnipaochaaGreat
namespace Go.Proofs.YtcdbmjnipaochaaGreat
open Go.RowKit Rgn Eng
variable {S:Nat→Prop} {W:World}
theorem eSame{v0 v1:Value}(x y:Cx)(t0:(NumP x).p S v0 W)(t1:(NumP y).p S v1 W)(p0:ht x.re+ht x.im+ht y.re+ht y.im≤17179869184):Calls Tryz.prog 98 #[v0,v1] W (RetV (.bool ((x.sub y).zero)) W):=by
 have h1:=hc_sub x y
 refine Run.goP (S:=S) ((Pack.nil.s spNum t0).s spNum t1) Tryz.func98 rfl ?_
 refine Run.cR spNum (fun _ _ _ H=>eSub x y (NumP.mk (H.f 0) (H.f 1)) (NumP.mk (H.f 2) (H.f 3)) p0) ?_
 refine Run.cV [.bool ((x.sub y).zero)] kb (fun _ _ _ H=>eZero (x.sub y) (NumP.mk (H.f 4) (H.f 5))) ?_
 exact Run.rV rfl
end Go.Proofs.YtcdbmjnipaochaaGreat
namespace Go.Proofs.YtcdbmjnipaochaaGreat
open Go.RowKit Rgn
variable {S:Nat→Prop} {W:World}
theorem dsBy{v0 v1:Value}(c d:Ci)(t0:(RingP c).p S v0 W)(t1:(RingP d).p S v1 W)(p0:ht c.a+ht c.b.re+ht c.b.im+ht c.c+(ht d.a+ht d.b.re+ht d.b.im+ht d.c)≤67108864):Calls Tryz.prog 174 #[v0,v1] W (Ret (RatP (c.dot d)) S W):=by
 obtain⟨b1,x2,x3,b4,rfl,L1,L4,F1,F_x2,F_x3,F4⟩:=RingP.elim t0
 replace L1:Amb S W b1:=.inl L1
 replace F_x2:(RatN c.b.re).p (Amb S W) x2 W:=(RatN c.b.re).mono (fun _ _ h=>.inl h) F_x2
 replace F_x3:(RatN c.b.im).p (Amb S W) x3 W:=(RatN c.b.im).mono (fun _ _ h=>.inl h) F_x3
 replace L4:Amb S W b4:=.inl L4
 obtain⟨b5,x6,x7,b8,rfl,L5,L8,F5,F_x6,F_x7,F8⟩:=RingP.elim t1
 replace L5:Amb S W b5:=.inl L5
 replace F_x6:(RatN d.b.re).p (Amb S W) x6 W:=(RatN d.b.re).mono (fun _ _ h=>.inl h) F_x6
 replace F_x7:(RatN d.b.im).p (Amb S W) x7 W:=(RatN d.b.im).mono (fun _ _ h=>.inl h) F_x7
 replace L8:Amb S W b8:=.inl L8
 have z2:ht (Rat.divInt (1:Int) (2:Int))=3:=by decide
 have h1:=ht_mul c.a d.c
 have h2:=ht_mul d.a c.c
 have h3:=hc_conj d.b
 have h4:=hc_mul c.b d.b.conj
 have z0:=ht_zero
 have h5:=ht_add 0 (c.a*d.c)
 have h6:=ht_add (0+c.a*d.c) (d.a*c.c)
 have h7:=ht_mul (0+c.a*d.c+d.a*c.c) (Rat.divInt (1:Int) (2:Int))
 have bel:=b0 W
 go_enter Tryz.func174,Tryz.ntmps174
 refine gs 3 (Amb S W) fun _ K9=>?_
 refine .bx rfl (fun H=>H.v 0 (.agg #[pt b1,x2,x3,pt b4])) ?_
 refine .bx rfl (fun H=>H.v 1 (.agg #[pt b5,x6,x7,pt b8])) ?_
 refine .mc rfl ?_
 refine .dk (fun u=>.agg #[pt b1,x2,x3,pt b4]::.agg #[pt b5,x6,x7,pt b8]::sq u 0 3 (us 31)) K9 bel fun u1 w1 D bel=>?_
 obtain⟨b10,E1_0,A10,B10⟩:=D.nw 0
 obtain⟨b11,E1_1,A11,B11⟩:=D.nw 1
 have E1_2:=D.q 2
 replace F1:=D.o L1 F1
 replace F4:=D.o L4 F4
 replace F5:=D.o L5 F5
 replace F8:=D.o L8 F8
 replace F_x2:=D.gr (RatN c.b.re) F_x2
 replace F_x3:=D.gr (RatN c.b.im) F_x3
 replace F_x6:=D.gr (RatN d.b.re) F_x6
 replace F_x7:=D.gr (RatN d.b.im) F_x7
 clear D
 refine gd 13 (Amb S W) fun _ K12=>?_
 refine .fz rfl 2 0 E1_0 ?_
 refine .lc rfl 0 B10 ?_ (V:=pt b1)
 refine .fz rfl 3 3 E1_1 ?_
 refine .lc rfl 2 B11 ?_ (V:=pt b8)
 refine .cR rfl [] Tryz.func225 (fun H=>⟨_,ar2 (H.g 9 1) (H.g 11 3),eMul _ _ (RatP.n (H.was _ [] (VP.at F1 L1))) (RatP.n (H.was _ [] (VP.at F8 L8))) (by first|omega|(dsimp only at *;omega))⟩) ?_
 refine .fz rfl 3 0 E1_1 ?_
 refine .lc rfl 5 B11 ?_ (V:=pt b5)
 refine .fz rfl 2 3 E1_0 ?_
 refine .lc rfl 7 B10 ?_ (V:=pt b4)
 refine .cR rfl [] Tryz.func225 (fun H=>⟨_,ar2 (H.g 14 6) (H.g 16 8),eMul _ _ (RatP.n (H.was _ [] (VP.at F5 L5))) (RatP.n (H.was _ [] (VP.at F4 L4))) (by first|omega|(dsimp only at *;omega))⟩) ?_
 refine .br2 rfl [4,9] (fun H=>⟨_,_,(H.r 12 4),(H.r 17 9),(SV.sub [4,9] (H.a 4 rfl) rfl),(SV.sub [4,9] (H.a 9 rfl) rfl)⟩) ?_
 refine .cR rfl [4,9,10] Tryz.func219 (fun H=>⟨_,ar1 (H.r 18 10),ofF H.here.base.grow.size (eSum2 _ _ (SV.sub [4,9,10] (H.a 10 rfl) rfl) (by first|omega|(dsimp only at *;omega)))⟩) ?_
 refine .mn rfl 11 [4,9,10,11] ?_
 refine .dk (fun u=>.agg #[pt b1,x2,x3,pt b4]::.agg #[pt b5,x6,x7,pt b8]::sq u1 0 3 (u 12::U::U::sq u 0 12 (us 16))) K12 bel fun u2 w2 D bel=>?_
 obtain⟨b13,E2_12,A13,F13⟩:=RatNw.elim (D.rr 12)
 have N10_13:=Nat.ne_of_lt (Nat.lt_of_lt_of_le (lt_of B10) A13)
 have N11_13:=Nat.ne_of_lt (Nat.lt_of_lt_of_le (lt_of B11) A13)
 have N1_13:=Nat.ne_of_lt (Nat.lt_of_lt_of_le (RatP.lt F1) A13)
 have N4_13:=Nat.ne_of_lt (Nat.lt_of_lt_of_le (RatP.lt F4) A13)
 have N5_13:=Nat.ne_of_lt (Nat.lt_of_lt_of_le (RatP.lt F5) A13)
 have N8_13:=Nat.ne_of_lt (Nat.lt_of_lt_of_le (RatP.lt F8) A13)
 replace A13:=le2 D.le A13
 have L13:Amb S W b13:=.inr A13
 replace B10:=D.k B10
 replace B11:=D.k B11
 replace F1:=D.o L1 F1
 replace F4:=D.o L4 F4
 replace F5:=D.o L5 F5
 replace F8:=D.o L8 F8
 replace F_x2:=D.gr (RatN c.b.re) F_x2
 replace F_x3:=D.gr (RatN c.b.im) F_x3
 replace F_x6:=D.gr (RatN d.b.re) F_x6
 replace F_x7:=D.gr (RatN d.b.im) F_x7
 clear D
 refine gd 12 (Amb S W) fun _ K14=>?_
 refine .fz rfl 2 1 E1_0 ?_
 refine .lp rfl 0 (#[x2,x3]) B10 ?_
 refine .fz rfl 3 1 E1_1 ?_
 refine .lp rfl 2 (#[x6,x7]) B11 ?_
 refine .cR rfl [] Tryz.func188 (fun H=>⟨_,ar1 (H.g 24 3),eConj d.b (NumP.mk (H.was _ [] F_x6) (H.was _ [] F_x7)) (by first|omega|(dsimp only at *;omega))⟩) ?_
 refine .cR rfl [4] Tryz.func96 (fun H=>⟨_,ar2 (H.g 22 1) (H.r 25 4),eNMul c.b d.b.conj (NumP.mk (H.was _ [4] F_x2) (H.was _ [4] F_x3)) (SV.sub [4] (H.a 4 rfl) rfl) (by first|omega|(dsimp only at *;omega))⟩) ?_
 refine .cR rfl [4,5] Tryz.func141 (fun H=>⟨_,ar1 (H.r 26 5),eParts (c.b.mul d.b.conj) (SV.sub [4,5] (H.a 5 rfl) rfl)⟩) ?_
 refine .mn rfl 6 [4,5,6] ?_
 refine Go2.fn (i:=8) rfl (G0 rfl) (.val 8 [4,5,6,7] (RatP ((c.b.mul d.b.conj).re))) (fun u μ ρ H=>by have e20:=H.r 20 7;have h0:=(H.a 7 rfl);obtain⟨x0,x1,h1,h2⟩:=h0;rw [h1] at e20;exact⟨x0,by clear H;go_simp,SP.tupKeep (by decide) (by decide) h2.1⟩) ?_
 refine Go2.fn (i:=9) rfl (G0 rfl) (.val 9 [4,5,6,7] (RatP ((c.b.mul d.b.conj).im))) (fun u μ ρ H=>by have e20:=H.r 20 7;have h0:=(H.a 7 rfl);obtain⟨x0,x1,h1,h2⟩:=h0;rw [h1] at e20;exact⟨x1,by clear H;go_simp,SP.tupKeep (by decide) (by decide) h2.2⟩) ?_
 refine .mn rfl 8 [4,5,6,7,8] ?_
 refine .mn rfl 9 [4,5,6,7,9] ?_
 refine .dk (fun u=>.agg #[pt b1,x2,x3,pt b4]::.agg #[pt b5,x6,x7,pt b8]::sq u1 0 3 (u2 12::u 10::u 11::sq u2 0 12 (u 7::sq u 0 7 (u 8::u 9::us 6)))) K14 bel fun u3 w3 D bel=>?_
 obtain⟨b15,E3_10,L15,F15⟩:=RatP.elim (D.rr 10)
 replace F13:=D.o L13 F13
 clear D
 refine wp_seq_k fun _ K16=>?_
 refine go2_seqT 5 2 rfl (Amb S W) [] [] (Olds.nil _) (by kernel_rfl) ?_
 refine .mz rfl 5 E2_12 ?_
 refine .mz rfl 5 E2_12 ?_
 refine .cR rfl [] Tryz.func154 (fun H=>⟨_,ar2 (H.c (.int .i64 1)) (H.c (.int .i64 2)),qNewRat _ _ (by first|omega|(dsimp only at *;omega)) (by first|omega|(dsimp only at *;omega)) (by first|omega|(dsimp only at *;omega)) (by first|omega|(dsimp only at *;omega)) (by first|omega|(dsimp only at *;omega))⟩) ?_
 refine .cR rfl [2] Tryz.func225 (fun H=>⟨_,ar2 (H.g 31 1) (H.r 32 2),eMul _ _ (RatP.n (H.was _ [2] (VP.at F13 L13))) (RatP.n (SV.sub [2] (H.a 2 rfl) rfl)) (by first|omega|(dsimp only at *;omega))⟩) ?_
 refine .mz rfl 6 E3_10 ?_
 refine .dT (fun u=>.agg #[pt b1,x2,x3,pt b4]::.agg #[pt b5,x6,x7,pt b8]::u1 0::u1 1::u 6::u2 12::u3 10::u3 11::sq u2 0 12 (u3 7::sq u3 0 7 (u3 8::u3 9::sq u 0 6 []))) bel.size _ rfl fun u4 w4 D=>?_
 obtain⟨b17,E4_3,L17,F17⟩:=RatP.elim (D.rr 3)
 have E4_0:=D.q 0
 have E4_4:=D.q 4
 replace F13:=D.o L13 F13
 replace F15:=D.o L15 F15
 replace bel:=D.d.base.bel0 bel bel.size
 clear D
 refine wpT_callO (args:=#[pt b13,pt b17,pt b15]) rfl (ex_call rfl rfl Tryz.func153 (by kernel_rfl) (by kernel_rfl) (by simp only [List.map_toArray,List.map_cons,List.map_nil];show #[(u4 0).v,(u4 3).v,(u4 4).v]=#[pt b13,pt b17,pt b15];rw [E4_0,E4_3,E4_4])) (qSub (z:=b13) (x:=((0:Rat)+(c.a*d.c)+(d.a*c.c))*(Rat.divInt (1:Int) (2:Int))) (y:=(c.b.mul d.b.conj).re) (RatP.blk F13) (VP.any _ F17) (VP.any _ F15) (by first|omega|(dsimp only at *;omega))) fun w18 fw18 ow18=>?_
 have sw18:Soft w4 b13∨Local w4 b13:=.inl (RatP.soft F13)
 have F13:=fw18
 have L13:Amb S W b13:=.inr A13
 replace bel:=bel.trans (only_below' ow18 A13 bel.size)
 refine wpT_val rfl (ex_assign rfl) ?_
 refine wpList_nil ?_
 show _
 refine K16 _ _ ?_
 refine wp_ret ?_
 refine ret_ok rfl (by exact results_tmp' rfl rfl) ⟨_,rfl,?_,bel⟩
 exact rat_eq (dot_eq c d) (VP.at F13 L13)
end Go.Proofs.YtcdbmjnipaochaaGreat
namespace Go.Proofs.YtcdbmjnipaochaaGreat
open Go.RowKit Rgn Eng
variable {S:Nat→Prop} {W:World}
theorem dsSame{v0 v1:Value}(c d:Ci)(t0:(RingP c).p S v0 W)(t1:(RingP d).p S v1 W)(p0:ht c.a+ht c.b.re+ht c.b.im+ht c.c+(ht d.a+ht d.b.re+ht d.b.im+ht d.c)≤1073741824):Calls Tryz.prog 143 #[v0,v1] W (RetV (.bool (decide (c=d))) W):=by
 refine Run.goP (S:=S) ((Pack.nil.s spRing t0).s spRing t1) Tryz.func143 rfl ?_
 refine Run.cV [.int .i64 (icmp (c.a.num*(d.a.den:Int)) (d.a.num*(c.a.den:Int)))] kb (fun _ _ _ H=>qCmp c.a d.a (H.f 0) (H.f 4) (by first|omega|(dsimp only at *;omega))) ?_
 refine Run.ic (icmp (c.a.num*(d.a.den:Int)) (d.a.num*(c.a.den:Int))) 0 ((icmp (c.a.num*(d.a.den:Int)) (d.a.num*(c.a.den:Int))) == 0) ?_
 refine (Bool.eq_false_or_eq_true ((icmp (c.a.num*(d.a.den:Int)) (d.a.num*(c.a.den:Int))) == 0)).elim (fun c1=>?_) (fun c1=>?_)
 · refine Run.kn c1 ?_
   refine Run.cV [.bool ((c.b.sub d.b).zero)] kb (fun _ _ _ H=>eSame c.b d.b (NumP.mk (H.f 1) (H.f 2)) (NumP.mk (H.f 5) (H.f 6)) (by first|omega|(dsimp only at *;omega))) ?_
   refine (Bool.eq_false_or_eq_true ((c.b.sub d.b).zero)).elim (fun c2=>?_) (fun c2=>?_)
   · refine Run.kn c2 ?_
     refine Run.cV [.int .i64 (icmp (c.c.num*(d.c.den:Int)) (d.c.num*(c.c.den:Int)))] kb (fun _ _ _ H=>qCmp c.c d.c (H.f 3) (H.f 7) (by first|omega|(dsimp only at *;omega))) ?_
     refine Run.ic (icmp (c.c.num*(d.c.den:Int)) (d.c.num*(c.c.den:Int))) 0 ((icmp (c.c.num*(d.c.den:Int)) (d.c.num*(c.c.den:Int))) == 0) ?_
     exact Run.rV (V' := .bool ((icmp (c.c.num*(d.c.den:Int)) (d.c.num*(c.c.den:Int))) == 0)) (by rw [← sm_dec];unfold Ci.sm;rw [c1,c2];rfl)
   · refine Run.kn c2 ?_
     exact Run.rV (V' := .bool false) (by rw [← sm_dec];unfold Ci.sm;rw [c1,c2];rfl)
 · refine Run.kn c1 ?_
   exact Run.rV (V' := .bool false) (by rw [← sm_dec];unfold Ci.sm;rw [c1];rfl)
theorem dsTold{v0:Value}(c:Ci)(t0:(RingP c).p S v0 W)(p0:ht c.a+ht c.b.re+ht c.b.im+ht c.c≤1073741824):Calls Tryz.prog 89 #[v0] W (RetV (.tuple #[rciV (cicut c),.int .i64 (cierr c)]) W):=by
 refine Run.goP (S:=S) (Pack.nil.s spRing t0) Tryz.func89 rfl ?_
 refine Run.cV ((rfC (fcut c.a)).toList++[.int .i64 (ferr c.a)]) (.tup [.agg (ks 0 4),.o (.k 4)]) (fun _ _ _ H=>eFrac c.a (RatP.n (H.f 0)) (by first|omega|(dsimp only at *;omega))) ?_
 refine Run.cV ((rgC (gcut c.b)).toList++[.int .i64 (gerr c.b)]) (.tup [.agg (ks 0 8),.o (.k 8)]) (fun _ _ _ H=>eTold c.b (NumP.mk (H.f 1) (H.f 2)) (by first|omega|(dsimp only at *;omega))) ?_
 refine Run.cV ((rfC (fcut c.c)).toList++[.int .i64 (ferr c.c)]) (.tup [.agg (ks 0 4),.o (.k 4)]) (fun _ _ _ H=>eFrac c.c (RatP.n (H.f 3)) (by first|omega|(dsimp only at *;omega))) ?_
 refine Run.ic (ferr c.a) 0 ((ferr c.a) != 0) ?_
 refine (Bool.eq_false_or_eq_true ((ferr c.a) != 0)).elim (fun c1=>?_) (fun c1=>?_)
 · refine Run.kn c1 ?_
   exact Run.rV (ccut_no (.inl c1))
 · refine Run.kn c1 ?_
   refine Run.ic (gerr c.b) 0 ((gerr c.b) != 0) ?_
   refine (Bool.eq_false_or_eq_true ((gerr c.b) != 0)).elim (fun c2=>?_) (fun c2=>?_)
   · refine Run.kn c2 ?_
     exact Run.rV (ccut_no (.inr (.inl c2)))
   · refine Run.kn c2 ?_
     refine Run.ic (ferr c.c) 0 ((ferr c.c) != 0) ?_
     refine (Bool.eq_false_or_eq_true ((ferr c.c) != 0)).elim (fun c3=>?_) (fun c3=>?_)
     · refine Run.kn c3 ?_
       exact Run.rV (ccut_no (.inr (.inr c3)))
     · refine Run.kn c3 ?_
       exact Run.rV (ccut_yes c1 c2 c3)
end Go.Proofs.YtcdbmjnipaochaaGreat
namespace Go.Proofs.YtcdbmjnipaochaaGreat
open Go.RowKit Rgn
noncomputable def valM(r:RF):Rat:=if h:fmay r=true then (fmay_ex h).choose else 0
theorem valM_rf{q:Rat}(h:fmay (rf q)=true):valM (rf q)=q:=by
 unfold valM
 rw [dif_pos h]
 exact (rf_inj (fmay_ex h).choose_spec).symm
theorem ratw_yes{x y:Int}(h0:¬ y<0)(h1:¬ y.natAbs=0)(h2:¬ (1024:Int)<(((bS x.natAbs).size:Nat):Int))(h3:¬ (1024:Int)<(((bS y.natAbs).size:Nat):Int))(h4:((icmp ((Rat.divInt x y).num) x) != 0)=false)(h5:((icmp ((Rat.divInt x y).den:Int) y) != 0)=false):fmay (RF.mk (rw x) (rw y))=true:=by
 have e4:(Rat.divInt x y).num=x:=icmp0.1 (by simpa using h4)
 have e5:((Rat.divInt x y).den:Int)=y:=icmp0.1 (by simpa using h5)
 have e:RF.mk (rw x) (rw y)=rf (Rat.divInt x y):=by
  show _=RF.mk (rw (Rat.divInt x y).num) (rw ((Rat.divInt x y).den:Int))
  rw [e4,e5]
 have hf:fits (RF.mk (rw x) (rw y))=true:=by
  unfold fits
  show (decide ((bS x.natAbs).size≤1024)&&decide ((bS y.natAbs).size≤1024))=true
  rw [decide_eq_true (by omega),decide_eq_true (by omega)];rfl
 unfold fmay
 rw [hf,e,fformed_rf];rfl
def Mb.form(m:Mb):Bool:=(m.c.sub (Cx.ofInt (1:Int) (0:Int))).zero||(m.c.zero&&(m.d.sub (Cx.ofInt (1:Int) (0:Int))).zero)
open Classical in
open Classical in
noncomputable def dsOk(r:RCi):Bool:=decide (∃ c,r=rci c∧cifits (rci c)=true∧c.dot c=-1)
open Classical in
noncomputable def mbOk(r:RMb):Bool:=decide (∃ m,r=rmb m∧mbfits (rmb m)=true∧m.det.zero=false∧m.form=true)
open Classical in
noncomputable def pnOk(r:RPn):Bool:=if r.inf=true then decide (r=RPn.mk true rz) else gmay r.z
theorem plate_eq(c:Ci):Value.bool (icmp ((c.dot c).num*((Rat.divInt (-1:Int) (1:Int)).den:Int)) ((Rat.divInt (-1:Int) (1:Int)).num*((c.dot c).den:Int)) == 0)=.bool (decide (c.dot c=-1)):=by
 rw [icmp_b,divInt_one];rfl
theorem dsOk_ex{r:RCi}(h:dsOk r=true):∃ c,r=rci c∧cifits (rci c)=true∧c.dot c=-1:=by
 unfold dsOk at h;classical exact of_decide_eq_true h
theorem mbOk_ex{r:RMb}(h:mbOk r=true):∃ m,r=rmb m∧mbfits (rmb m)=true∧m.det.zero=false∧m.form=true:=by
 unfold mbOk at h;classical exact of_decide_eq_true h
theorem dsOk_c{c:Ci}(h:dsOk (rci c)=true):cifits (rci c)=true∧c.dot c=-1:=by
 obtain⟨d,e,h⟩:=dsOk_ex h
 obtain rfl:=rci_inj e
 exact h
theorem mbOk_c{c:Mb}(h:mbOk (rmb c)=true):mbfits (rmb c)=true∧c.det.zero=false∧c.form=true:=by
 obtain⟨d,e,h⟩:=mbOk_ex h
 obtain rfl:=rmb_inj e
 exact h
theorem dsOk_yes{c:Ci}(h1:cifits (rci c)=true)(h2:c.dot c=-1):dsOk (rci c)=true:=by unfold dsOk;classical exact decide_eq_true ⟨c,rfl,h1,h2⟩
theorem ht_dvI{a b:Int}(h:0<b){n:Nat}(h1:max (hi a) (hi b)≤n):ht (Rat.divInt a b)≤n+1:=by
 obtain⟨m,rfl⟩:=Int.eq_ofNat_of_zero_le (Int.le_of_lt h)
 have e:Rat.divInt a (m:Int)=mkRat a m:=rfl
 rw [e]
 have h2:=hi_bl a
 have h3:=hi_bl (m:Int)
 rw [Int.natAbs_natCast] at h3
 exact ht_mkRat a m (by omega) (by omega) (by omega)
end Go.Proofs.YtcdbmjnipaochaaGreat
namespace Go.Proofs.YtcdbmjnipaochaaGreat
open Go.RowKit Rgn Eng
variable {S:Nat→Prop} {W:World}
theorem eRatF0(r:RF)(p0:wformed r.a=false):Calls Tryz.prog 136 #[rfV r] W (RetV (.pointer none) W):=by
 refine Run.goP (S:=Z0) (Pack.nil.k (rfV r) (rfC r).toList (.s (.agg (ks 0 4)))) Tryz.func136 rfl ?_
 refine Run.cV [.bool (wformed r.a)] kb (fun _ _ _ H=>eFormed r.a) ?_
 refine Run.kn p0 ?_
 exact Run.rV rfl
theorem eRatF1(r:RF)(p0:wformed r.a=true)(p1:wformed r.b=false):Calls Tryz.prog 136 #[rfV r] W (RetV (.pointer none) W):=by
 refine Run.goP (S:=Z0) (Pack.nil.k (rfV r) (rfC r).toList (.s (.agg (ks 0 4)))) Tryz.func136 rfl ?_
 refine Run.cV [.bool (wformed r.a)] kb (fun _ _ _ H=>eFormed r.a) ?_
 refine Run.kn p0 ?_
 refine Run.cV [.bool (wformed r.b)] kb (fun _ _ _ H=>eFormed r.b) ?_
 refine Run.kn p1 ?_
 exact Run.rV rfl
theorem eRatW(g:Int×Int)(p0:fmay (RF.mk (rw g.1) (rw g.2))=false):Calls Tryz.prog 136 #[wwV g] W (RetV (.pointer none) W):=by
 have b1:hi g.1≤8*(bS g.1.natAbs).size+1:=hi_bytes g.1
 have b2:hi g.2≤8*(bS g.2.natAbs).size+1:=hi_bytes g.2
 have b3:=hi_num (Rat.divInt g.1 g.2)
 have b4:=hi_den (Rat.divInt g.1 g.2)
 refine Run.goP (S:=Z0) (Pack.nil.k (wwV g) ((wC g.1).toList++(wC g.2).toList) (.s (.agg (ks 0 4)))) Tryz.func136 rfl ?_
 refine Run.cV [.bool (wformed (rw g.1))] kb (fun _ _ _ H=>eFormed (rw g.1)) ?_
 refine Run.kn (wformed_rw g.1) ?_
 refine Run.cV [.bool (wformed (rw g.2))] kb (fun _ _ _ H=>eFormed (rw g.2)) ?_
 refine Run.kn (wformed_rw g.2) ?_
 rcases Bool.eq_false_or_eq_true (decide (g.2<0)) with c5|c5
 · refine Run.kn c5 ?_
   exact Run.rV rfl
 refine Run.kn c5 ?_
 rcases Bool.eq_false_or_eq_true (decide (g.2.natAbs=0)) with c7|c7
 · refine Run.bi (op:=.eql) (t:=9) (a:=.string (bS g.2.natAbs)) (c:=.string ⟨#[]⟩) [] (cb true) (fun w o ρ u v t' ho hx hy=>ex_seq Tryz.underlying9 _ c7 ho hx hy) ?_
   exact Run.rV rfl
 refine Run.bi (op:=.eql) (t:=9) (a:=.string (bS g.2.natAbs)) (c:=.string ⟨#[]⟩) [] (cb false) (fun w o ρ u v t' ho hx hy=>ex_seq Tryz.underlying9 _ c7 ho hx hy) ?_
 refine Run.sl (bS g.1.natAbs) 9 Tryz.underlying9 ?_
 rcases Bool.eq_false_or_eq_true (decide (1024<(((bS g.1.natAbs).size:Nat):Int))) with c9|c9
 · refine Run.ik .gtr (((bS g.1.natAbs).size:Nat):Int) 1024 true (congrArg some c9) ?_
   exact Run.rV rfl
 refine Run.ik .gtr (((bS g.1.natAbs).size:Nat):Int) 1024 false (congrArg some c9) ?_
 refine Run.sl (bS g.2.natAbs) 9 Tryz.underlying9 ?_
 rcases Bool.eq_false_or_eq_true (decide (1024<(((bS g.2.natAbs).size:Nat):Int))) with c11|c11
 · refine Run.ik .gtr (((bS g.2.natAbs).size:Nat):Int) 1024 true (congrArg some c11) ?_
   exact Run.rV rfl
 refine Run.ik .gtr (((bS g.2.natAbs).size:Nat):Int) 1024 false (congrArg some c11) ?_
 have d5:=of_decide_eq_false c5
 have d7:=of_decide_eq_false c7
 have d9:=of_decide_eq_false c9
 have d11:=of_decide_eq_false c11
 have g0:=ht_dvI (a:=g.1) (show 0<g.2 by omega) (Nat.le_refl (max (hi g.1) (hi g.2)))
 refine Run.dr ?_
 refine RunD.cR spInto (fun _ _ _ H=>eWhole g.1 (by omega)) ?_
 refine RunD.cR spInto (fun _ _ _ H=>eWhole g.2 (by omega)) ?_
 refine RunD.en ?_
 refine Run.cO 1 softRat (fun _ _ _ H=>qSetFrac g.1 g.2 (RatP.blk (H.oz 1)) (IntO.p (anyV (H.f 0))) (IntO.p (anyV (H.f 1))) (by omega) (by omega)) ?_
 refine Run.se 1 ?_
 refine Run.cR spInto (fun _ _ _ H=>qNum (Rat.divInt g.1 g.2) (H.s 1) (by omega)) ?_
 refine Run.cV [.int .i64 (icmp (Rat.divInt g.1 g.2).num g.1)] kb (fun _ _ _ H=>bCmp (Rat.divInt g.1 g.2).num g.1 (IntO.p (H.f 3)) (IntO.p (H.f 0)) (by omega)) ?_
 rcases Bool.eq_false_or_eq_true (icmp (Rat.divInt g.1 g.2).num g.1 != 0) with c20|c20
 · refine Run.ik .neq (icmp (Rat.divInt g.1 g.2).num g.1) 0 true (congrArg some c20) ?_
   exact Run.rV rfl
 refine Run.ik .neq (icmp (Rat.divInt g.1 g.2).num g.1) 0 false (congrArg some c20) ?_
 refine Run.cR spInto (fun _ _ _ H=>qDenom (Rat.divInt g.1 g.2) (H.s 1) (by omega)) ?_
 refine Run.cV [.int .i64 (icmp ((Rat.divInt g.1 g.2).den:Int) g.2)] kb (fun _ _ _ H=>bCmp ((Rat.divInt g.1 g.2).den:Int) g.2 (IntO.p (H.f 4)) (IntO.p (H.f 1)) (by omega)) ?_
 rcases Bool.eq_false_or_eq_true (icmp ((Rat.divInt g.1 g.2).den:Int) g.2 != 0) with c22|c22
 · refine Run.ik .neq (icmp ((Rat.divInt g.1 g.2).den:Int) g.2) 0 true (congrArg some c22) ?_
   exact Run.rV rfl
 exact Bool.noConfusion ((ratw_yes d5 d7 d9 d11 c20 c22).symm.trans p0)
end Go.Proofs.YtcdbmjnipaochaaGreat
namespace Go.Proofs.YtcdbmjnipaochaaGreat
open Go.RowKit Rgn
theorem eRatF{W:World}(r:RF)(p0:fmay r=false):Calls Tryz.prog 136 #[rfV r] W (RetV (.pointer none) W):=by
 cases h0:wformed r.a with
 | false=>exact eRatF0 r h0
 | true =>
  cases h1:wformed r.b with
  | false=>exact eRatF1 r h0 h1
  | true =>
   obtain⟨a,b⟩:=r
   obtain⟨x,rfl⟩:=wformed_ex h0
   obtain⟨y,rfl⟩:=wformed_ex h1
   exact eRatW (x,y) p0
theorem eRatT{S:Nat→Prop}{W:World}(r:RF)(p0:fmay r=true):Calls Tryz.prog 136 #[rfV r] W (Ret (RatP (valM r)) S W):=by
 obtain⟨q,rfl⟩:=fmay_ex p0
 rw [valM_rf p0]
 exact eRatOk q (and_tt p0).1
end Go.Proofs.YtcdbmjnipaochaaGreat
