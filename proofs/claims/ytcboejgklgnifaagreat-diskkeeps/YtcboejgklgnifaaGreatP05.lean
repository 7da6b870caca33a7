import Derived.Test.YtcboejgklgnifaaGreatP04
set_option linter.unusedVariables false
set_option linter.unusedSimpArgs false
set_option maxHeartbeats 8000000
set_option maxRecDepth 100000
namespace Go.Proofs.YtcboejgklgnifaaGreat.Eng
open Go.RowKit Rgn
def noB(b:Nat):At→Bool
 | .p c _=>!Nat.beq c b
 | .sl c _ _ _=>!Nat.beq c b
 | .fn _ bs=>bs.all fun c=>!Nat.beq c b
 | _=>true
def S1.noB(b:Nat)(x:S1):Bool:=x.cl.all (Eng.noB b)
def SV.noB(b:Nat):SV→Bool
 | .s x=>x.noB b
 | .tup l=>l.all (S1.noB b)
def dropO(b:Nat):Option SV→Option SV
 | some v=>if v.noB b then some v else none
 | none=>none
def dropB(b:Nat)(fr:List (Option SV)):List (Option SV):=fr.map (dropO b)
def reE(E:Env)(b g:Nat):Env:=⟨fun c=>if c=b then g else E.β c,E.κ,E.ℓ⟩
section
variable {E:Env} {b g:Nat}
theorem reE_ne{c:Nat}(h:(!Nat.beq c b)=true):(reE E b g).β c=E.β c:=if_neg fun e=>by
 subst e;rw [Nat.beq_refl] at h;cases h
theorem noB_d{a:At}(h:noB b a=true):a.d (reE E b g)=a.d E:=by
 cases a with
 | v n=>rfl
 | k n=>rfl
 | c x=>rfl
 | p c off=>show Value.pointer (some ⟨(reE E b g).β c,off,none⟩)=_;rw [reE_ne h];rfl
 | sl c off n m=>show Value.slice (some ⟨(reE E b g).β c,off,none⟩) n m=_;rw [reE_ne h];rfl
 | fn f bs =>
  show Value.func (.func f) #[] ⟨bs.map fun c=>.pointer (some ⟨(reE E b g).β c,0,none⟩)⟩=.func (.func f) #[] ⟨bs.map fun c=>.pointer (some ⟨E.β c,0,none⟩)⟩
  rw [List.map_congr_left fun c hc=>by rw [reE_ne (List.all_eq_true.1 h c hc)]]
 | fm f ns=>rfl
theorem noB_L{l:List At}(h:l.all (noB b)=true):l.map (At.d (reE E b g))=l.map (At.d E):=List.map_congr_left fun a ha=>noB_d (List.all_eq_true.1 h a ha)
theorem S1.noB_d{a:S1}(h:a.noB b=true):a.d (reE E b g)=a.d E:=by
 cases a with
 | o a =>
  have h:[a].all (Eng.noB b)=true:=h
  exact Eng.noB_d (by simpa using h)
 | agg l =>
  have h:l.all (Eng.noB b)=true:=h
  show Value.agg ⟨l.map (At.d (reE E b g))⟩=.agg ⟨l.map (At.d E)⟩
  rw [noB_L h]
theorem SV.noB_d{a:SV}(h:a.noB b=true):a.d (reE E b g)=a.d E:=by
 cases a with
 | s a=>exact S1.noB_d h
 | tup l =>
  show Value.tuple ⟨l.map (S1.d (reE E b g))⟩=.tuple ⟨l.map (S1.d E)⟩
  rw [List.map_congr_left fun a ha=>S1.noB_d (List.all_eq_true.1 h a ha)]
theorem AgF.drop{D:List Deferred}{fr:List (Option SV)}{a:Act}(A:AgF D E fr a):AgF D (reE E b g) (dropB b fr) a:=⟨A.nd,by unfold dropB;rw [List.length_map];exact A.sz,fun t v hv=>by
 unfold dropB at hv
 rw [nth_map] at hv
 cases hn:nth fr t with
 | none=>rw [hn] at hv;cases hv
 | some o =>
  rw [hn] at hv
  have hv:dropO b o=some v:=Option.some.inj hv
  cases o with
  | none=>cases hv
  | some u =>
   have hv:(if u.noB b then some u else none)=some v:=hv
   split at hv
   ·rename_i hb;cases hv;rw [SV.noB_d hb];exact A.at_ t v hn
   ·cases hv⟩
end
section
variable {P:Program} {A S:Nat→Prop} {W:World} {κ:List Value} {Φ:List VP} {Q:Exit→Act→World→Prop} {m:MS}
theorem Inv.reB{E:Env}{w w': World}{bl:List Blk}{sf:List Nat}{b g:Nat}{k:Blk}{cs:List At}(I:Inv A S W κ Φ E bl sf w)(hk:nth bl b=some k)(hfn:k.fact=none)(hown:k.own=true)(hl:Rgn.Loc k.ty=true)(hoth:∀ c l,nth bl c=some l→c≠b→l.cells.map (At.d (reE E b g))=l.cells.map (At.d E))(h1:w'.os=w.os)(h2:w'.tape=w.tape)(h3:w'.output=w.output)(hsz:w.heap.size≤w'.heap.size)(hblk:∀ j,j<w.heap.size→j≠E.β b→w'.heap[j]? = w.heap[j]?)(hg:g=E.β b∨w.heap.size≤g)(hgl:g<w'.heap.size)(hB:HC (reE E b g) cs k.ty w'.heap[g]?):Inv (fun j=>A j∨j=g) S W κ Φ (reE E b g) (setL bl b ⟨k.ty,cs,true,none,false⟩) sf w' := by
 have hge:=I.own b k hk hown
 have hgW:W.heap.size≤g:=by
  rcases hg with rfl|hg
  ·exact hge
  ·exact Nat.le_trans I.bel.size hg
 have hG:∀ T,GrowS T w w' := fun T=>⟨h1,h2,h3,hsz,fun j hj=>by
  by_cases e:j=E.β b
  ·subst e
   obtain⟨r,hr,_⟩:=I.blk b k hk hfn
   exact .inr (.inl ⟨_,_,_,hr,hl⟩)
  ·exact .inl (hblk j hj e)⟩
 have hne:∀ c l,nth bl c=some l→c≠b→E.β c≠E.β b:=fun c l h hc=>by
  cases e:l.own with
  | true=>exact I.inj c b l k h hk e hown hc
  | false=>exact Nat.ne_of_lt (Nat.lt_of_lt_of_le (I.old c l h e) hge)
 have hng:∀ c l,nth bl c=some l→c≠b→E.β c≠g:=fun c l h hc=>by
  rcases hg with rfl|hg
  ·exact hne c l h hc
  ·exact Nat.ne_of_lt (Nat.lt_of_lt_of_le (I.lt c l h) hg)
 have hb:(reE E b g).β b=g:=if_pos rfl
 have hc:∀ c,c≠b→(reE E b g).β c=E.β c:=fun c h=>if_neg h
 refine⟨I.ek,?_,?_,?_,?_,?_,?_,I.ol,I.ok,?_,?_,?_,?_,?_⟩
 ·exact I.bel.trans ⟨h1,h2,h3,hsz,fun j hj=>hblk j (Nat.lt_of_lt_of_le hj I.bel.size) (Nat.ne_of_lt (Nat.lt_of_lt_of_le hj hge))⟩
 ·intro c l h
  rcases nth_setL h with⟨rfl,rfl,_⟩|⟨hcb,h⟩
  ·rw [hb];exact hgl
  ·rw [hc c hcb];exact Nat.lt_of_lt_of_le (I.lt c l h) hsz
 ·intro c l h hf
  rcases nth_setL h with⟨rfl,rfl,_⟩|⟨hcb,h⟩
  ·rw [hb];exact hB
  ·rw [hc c hcb,hblk _ (I.lt c l h) (hne c l h hcb)]
   exact (I.blk c l h hf).env (hoth c l h hcb)
 ·intro c l h ho
  rcases nth_setL h with⟨rfl,rfl,_⟩|⟨hcb,h⟩
  ·rw [hb];exact hgW
  ·rw [hc c hcb];exact I.own c l h ho
 ·intro c l h ho
  rcases nth_setL h with⟨rfl,rfl,_⟩|⟨hcb,h⟩
  ·cases ho
  ·rw [hc c hcb];exact I.old c l h ho
 ·intro c d l m h g' ho1 ho2 hn
  rcases nth_setL h with⟨e1,_,_⟩|⟨hcb,h'⟩
  ·rcases nth_setL g' with⟨e2,_,_⟩|⟨hdb,g''⟩
   ·exact absurd (e1.trans e2.symm) hn
   ·rw [e1,hb,hc d hdb];exact (hng d m g'' hdb).symm
  ·rcases nth_setL g' with⟨e2,_,_⟩|⟨hdb,g''⟩
   ·rw [e2,hb,hc c hcb];exact hng c l h' hcb
   ·rw [hc c hcb,hc d hdb];exact I.inj c d l m h' g'' ho1 ho2 hn
 ·intro n φ h hs
  exact φ.grow (hG _) (φ.mono (fun k _ ha=>.inl ha) (I.fac n φ h hs))
 ·intro j hj
  rcases hj with hj|rfl
  ·exact I.up j hj
  ·exact .inr hgW
 ·intro c l h ho hs
  rcases nth_setL h with⟨rfl,rfl,_⟩|⟨hcb,h⟩
  ·rw [hb];exact .inr rfl
  ·rw [hc c hcb];exact .inl (I.se c l h ho hs)
 ·intro c l h hs
  rcases nth_setL h with⟨rfl,rfl,_⟩|⟨hcb,h⟩
  ·cases hs
  ·rw [hc c hcb]
   obtain⟨q1,q2,q3⟩:=I.so c l h hs
   exact⟨q1,fun e=>e.elim q2 (hng c l h hcb),Soft.keep q3 (hblk _ (I.lt c l h) (hne c l h hcb))⟩
 ·intro c l n h hf
  rcases nth_setL h with⟨rfl,rfl,_⟩|⟨hcb,h⟩
  ·cases hf
  ·rw [hc c hcb]
   obtain⟨q1,q2,φ,q3,q4⟩:=I.sof c l n h hf
   exact⟨q1,Soft.keep q2 (hblk _ (I.lt c l h) (hne c l h hcb)),φ,q3,φ.grow (hG _) q4⟩
section
variable {w:World} {TS ty T:TypeId} {i:TypeInfo} {z:Value} {sz bt:Nat} (ht:P.underlying TS=some (.slice T)) (hi:P.info? T=some i) (hz:i.zero=some z) (hsize:i.size=sz) (hby:i.bytes=bt) (hzs:z.cells.size=sz) (hsz:0<sz) (hb:bt≤100000)
 (a:Addr) (c0:Nat) (news:List Value) (hl:news.length=sz) (hnews:∀ j u,news[j]? = some u→w.cell? (a.add j)=some u)
include ht hi hz hsize hby hzs hsz hb hl hnews
theorem ap_nil:∃ c cur w', (Builtin.append_ #[TS,TS] ty #[.slice none 0 0,.slice (some a) 1 c0]).run P w=.ok (.slice (some ⟨w.heap.size,0,none⟩) 1 (c+1)) w'∧RowKit.Below w.heap.size w w'∧w'.heap[w.heap.size]? = some (.cells cur T (0,0))∧cur.size=(c+1)*sz∧cur.toList.take sz=news:=by
 subst hsize
 subst hby
 have hr:=run_append_nil (P:=P) w TS ty T i z ht hi hz a 1 c0 news (by omega) hnews (by omega) (by decide) (by omega)
 have hge:=grownCap_ge w 1 0 T
 obtain⟨c,hc⟩:∃ c,grownCap w 1 0 T=c+1:=⟨grownCap w 1 0 T-1,by omega⟩
 rw [hc] at hr
 refine⟨c,_,_,hr,⟨rfl,rfl,rfl,by simp,fun k hk=>heap_alloc_old w.drew _ hk⟩,heap_alloc_new w.drew _,?_,?_⟩
 ·simp only [Array.size_append,List.size_toArray,size_zeroCells,hzs,hl,Nat.add_sub_cancel]
  rw [Nat.add_mul];omega
 ·simp only [Array.toList_append]
  rw [← hl];exact List.take_left
theorem ap_own(h1:∀ u ∈ news,u.oneCell'=true){g n cap:Nat}{cur:Array Value}(hg:w.heap[g]? = some (.cells cur T (0,0)))(hc:cur.size=(cap+n)*sz)(hn:n≤100000):∃ g' c cur' w', (Builtin.append_ #[TS,TS] ty #[.slice (some ⟨g,0,none⟩) n (cap+n),.slice (some a) 1 c0]).run P w=.ok (.slice (some ⟨g', 0,none⟩) (n+1) (c+(n+1))) w'∧w'.os=w.os∧w'.tape=w.tape∧w'.output=w.output∧w.heap.size≤w'.heap.size ∧
   (∀ j,j<w.heap.size→j≠g→w'.heap[j]? = w.heap[j]?)∧(g'=g∨w.heap.size≤g')∧w'.heap[g']? = some (.cells cur' T (0,0))∧cur'.size=(c+(n+1))*sz∧cur'.toList.take ((n+1)*sz)=cur.toList.take (n*sz)++news:=by
 subst hsize
 subst hby
 have hle:n*i.size≤cur.size:=by rw [hc];exact Nat.mul_le_mul_right _ (by omega)
 have htl:(cur.toList.take (n*i.size)).length=n*i.size:=by rw [List.length_take];simp;omega
 have e1:(n+1)*i.size=n*i.size+i.size:=Nat.succ_mul _ _
 cases cap with
 | succ cap =>
  have hfit:n*i.size+news.length≤cur.size:=by rw [hl,hc,← e1];exact Nat.mul_le_mul_right _ (by omega)
  have hr:=run_append_room (P:=P) w TS ty T i ht hi g n (cap+1+n) cur hg a 1 c0 news (by omega) hnews h1 (by omega) hfit
  rw [show cap+1+n=cap+(n+1) by omega] at hr
  have ho:=setRow_only w g (cur.toList.take (n*i.size)++news++cur.toList.drop (n*i.size+news.length)).toArray
  rw [show cap+1+n=cap+(n+1) by omega]
  refine⟨g,cap,_,_,hr,rfl,rfl,rfl,by simp [World.setRow],fun j hj hne=>ho.block j hj hne,.inl rfl,setRow_at hg,?_,?_⟩
  ·simp only [List.size_toArray,List.length_append,htl,List.length_drop,Array.length_toList]
   rw [show cap+(n+1)=cap+1+n by omega,← hc];omega
  ·rw [e1,← hl]
   have:(cur.toList.take (n*news.length)++news).length=n*news.length+news.length:=by rw [List.length_append,hl,htl]
   rw [← this];exact List.take_left
 | zero =>
  rw [Nat.zero_add] at hc ⊢
  have hx:cur.toList.take (n*i.size)=cur.toList:=List.take_of_length_le (by simp;omega)
  rw [hx]
  have hb2:(n+1)*i.bytes≤140737488355328:=Nat.le_trans (Nat.mul_le_mul (show n+1≤100001 by omega) hb) (by decide)
  have hr:=run_append_grow (P:=P) w TS ty T i z ht hi hz ⟨g,0,none⟩ n n cur.toList (by simpa using hc) (fun j u hj=>by rw [Addr.add_lit];simpa [World.cell?,hg] using hj) a 1 c0 news (by omega) hnews (by omega) (by omega) (growslice_fits (by omega) hb2)
  have hge:=grownCap_ge w (n+1) n T
  obtain⟨c,hcc⟩:∃ c,grownCap w (n+1) n T=c+(n+1):=⟨grownCap w (n+1) n T-(n+1),by omega⟩
  rw [hcc] at hr
  refine⟨w.heap.size,c,_,_,hr,rfl,rfl,rfl,by simp,fun k hk _=>heap_alloc_old w.drew _ hk,.inr (Nat.le_refl _),heap_alloc_new w.drew _,?_,?_⟩
  ·simp only [Array.size_append,List.size_toArray,size_zeroCells,hzs,hl,Nat.add_sub_cancel,Array.length_toList,hc]
   rw [Nat.add_mul c,e1];omega
  ·simp only [Array.toList_append]
   rw [e1,← hc]
   have:(cur.toList++news).length=cur.size+i.size:=by simp [hl]
   rw [← this];exact List.take_left
end
def apOf(m:MS):Option (TypeId×SV×SV) :=
 match opOf m with
 | some o=>match o.op with
  | .call ⟨.builtin .append,⟨[s,x]⟩,⟨[t,t']⟩⟩=>match Nat.beq t t', eoF m.fr s,eoF m.fr x with
   | true,some v,some u=>some (t,v,u)
   | _,_,_=>none
  | _=>none
 | none=>none
theorem ap_enter{TS:TypeId}{v u:SV}{E:Env}(h:apOf m=some (TS,v,u)){a:Act}(G:AgF m.df E m.fr a):∃ o all rst s x,m.cur=.ops all (o::rst)∧Region.wanted o (yielded all a.tmps)=true∧o.op=.call { callee:=.builtin .append,args:=#[s,x],argTypes:=#[TS,TS] }∧a.eval s=v.d E∧a.eval x=u.d E:=by
 unfold apOf at h
 split at h
 ·rename_i o ho
  split at h
  ·rename_i s x t t' hop
   split at h
   ·rename_i v' u' ht hs hx
    cases h
    obtain⟨all,rst,hcur⟩:=op_cur ho
    obtain⟨_,hg⟩:=guard_ok G hcur ho
    have ht:=Nat.eq_of_beq_eq_true ht
    subst ht
    exact⟨o,all,rst,s,x,hcur,hg,hop,eval_eo G s _ hs,eval_eo G x _ hx⟩
   ·cases h
  ·cases h
 ·cases h
abbrev mkN(N:Nat):At:=.c (.tuple #[.slice none N 0])
def szX(P:Program)(T:TypeId):Nat:=match P.info? T with|some i=>i.size|none=>0
def elB(P:Program)(TS T:TypeId):Bool :=
 match sliceE P TS,(P.info? T).map (fun i=>(i.zero.map (·.cells.size),i.size,i.bytes)) with
 | some T', some (some zs,sz,bt)=>Nat.beq T' T&&Nat.beq zs sz&&Nat.blt 0 sz&&Nat.ble bt 100000
 | _,_=>false
theorem elB_ex{TS T:TypeId}(h:elB P TS T=true):∃ i z,P.underlying TS=some (.slice T)∧P.info? T=some i∧i.zero=some z∧z.cells.size=i.size∧0<i.size∧i.bytes≤100000∧i.size=szX P T:=by
 unfold elB at h
 split at h
 ·rename_i T' zs sz bt hs hq
  simp only [Bool.and_eq_true] at h
  obtain⟨⟨⟨c1,c2⟩,c3⟩,c4⟩:=h
  have c1:=Nat.eq_of_beq_eq_true c1
  have c2:=Nat.eq_of_beq_eq_true c2
  have c3:0<sz:=by simpa [Nat.blt_eq] using c3
  have c4:=Nat.le_of_ble_eq_true c4
  subst c1
  cases hi:P.info? T' with
  | none=>rw [hi] at hq;cases hq
  | some i =>
   rw [hi] at hq
   simp only [Option.map_some,Option.some.injEq,Prod.mk.injEq] at hq
   obtain⟨q1,q2,q3⟩:=hq
   cases hz:i.zero with
   | none=>rw [hz] at q1;cases q1
   | some z =>
    rw [hz] at q1
    have q1:z.cells.size=zs:=Option.some.inj q1
    exact⟨i,z,sliceE_ex hs,rfl,hz,by omega,by omega,by omega,by unfold szX;rw [hi]⟩
 ·cases h
def newB(P:Program)(TS T:TypeId)(b2:Nat)(m:MS):Bool :=
 match nth m.bl b2 with
 | some k2=>elB P TS T&&k2.fact.isNone && !headT k2.cells&&Nat.beq k2.cells.length (szX P T)&&k2.cells.all At.one&&Rgn.Loc T
 | none=>false
def apOk0(P:Program)(TS T:TypeId)(b2:Nat)(m:MS):Bool:=newB P TS T b2 m
def cellsOf(m:MS)(b:Nat):List At:=match nth m.bl b with|some k=>bodyC k.cells|none=>[]
def aftA0(P:Program)(T:TypeId)(b2 c:Nat)(m:MS):MS :=
 match m.cur with
 | .ops all (o::rest)=>{ m with cur:=.ops all rest,fr:=putF m.fr o.dst (some (.s (.o (.sl m.bl.length 0 1 (c+1))))),bl:=m.bl++[⟨T,mkN ((c+1)*szX P T)::cellsOf m b2,true,none,false⟩] }
 | _=>m
def tyOf(m:MS)(b:Nat):TypeId:=match nth m.bl b with|some k=>k.ty|none=>0
def othB(m:MS)(b:Nat):Bool:=(List.range m.bl.length).all fun c=>Nat.beq c b||match nth m.bl c with|some l=>l.cells.all (noB b)|none=>true
def apOk(P:Program)(TS:TypeId)(b n b2:Nat)(m:MS):Bool :=
 match nth m.bl b with
 | some k=>newB P TS k.ty b2 m&&k.own&&k.fact.isNone && !Nat.beq b2 b&&Nat.ble n 100000&&headT k.cells&&Nat.beq (bodyC k.cells).length (n*szX P k.ty)&&k.cells.all (noB b)&&othB m b
 | none=>false
def aftA(P:Program)(b n b2 c:Nat)(m:MS):MS :=
 match m.cur with
 | .ops all (o::rest)=>{ m with cur:=.ops all rest,fr:=putF (dropB b m.fr) o.dst (some (.s (.o (.sl b 0 (n+1) (c+(n+1)))))),bl:=setL m.bl b ⟨tyOf m b,mkN ((c+(n+1))*szX P (tyOf m b))::(cellsOf m b++cellsOf m b2),true,none,false⟩ }
 | _=>m
theorem news_at{E:Env}{w:World}{bl:List Blk}{sf:List Nat}{b2:Nat}{k2:Blk}(I:Inv A S W κ Φ E bl sf w)(hk:nth bl b2=some k2)(hf:k2.fact=none)(hT:headT k2.cells=false):∀ j u,(k2.cells.map (At.d E))[j]? = some u→w.cell? ((⟨E.β b2,0,none⟩:Addr).add j)=some u:=by
 intro j u hj
 have hB:=(I.blk b2 k2 hk hf).ex hT
 rw [Addr.add_lit]
 simpa [World.cell?,hB] using hj
theorem Run.a0(T TS:TypeId)(b2:Nat)(rest:∀ c,Run P S W κ Φ Q (aftA0 P T b2 c (runM P far m)))(ha:apOf (runM P far m)=some (TS,.s (.o (.c (.slice none 0 0))),.s (.o (.sl b2 0 1 1))):=by kernel_rfl)(hok:apOk0 P TS T b2 (runM P far m)=true:=by kernel_rfl)(hf:fitB (runM P far m) κ Φ=true:=by kernel_rfl):Run P S W κ Φ Q m :=
 run_sound far <| Run.mk fun A0 E a w I G=>by
  obtain⟨β,κ', ℓ⟩:=E
  have e:=I.ek
  simp only at e
  subst e
  generalize hm:runM P far m=q at *
  obtain⟨o,all,rst,s,x,hcur,hg,hop,hs,hx⟩:=ap_enter ha G
  unfold apOk0 newB at hok
  split at hok
  ·rename_i k2 hk2
   simp only [Bool.and_eq_true,Bool.not_eq_true'] at hok
   obtain⟨⟨⟨⟨⟨d1,d2⟩,d3⟩,d4⟩,d5⟩,d6⟩:=hok
   obtain⟨i,z,t1,t2,t3,t4,t5,t6,t7⟩:=elB_ex d1
   have d2:k2.fact=none:=by cases h:k2.fact with|none=>rfl|some _=>rw [h] at d2;cases d2
   have d4:=Nat.eq_of_beq_eq_true d4
   have hone:=(I.sees G).all d5
   have hc2:cellsOf q b2=k2.cells:=by unfold cellsOf;rw [hk2];exact bodyC_no d3
   obtain⟨c,cur,w', hr,hbel,hB,hcs,htk⟩:=ap_nil (P:=P) (w:=w) (ty:=o.type) t1 t2 t3 rfl rfl t4 t5 t6 ⟨β b2,0,none⟩ 1 (k2.cells.map (At.d ⟨β,κ', ℓ⟩)) (by rw [List.length_map];omega) (news_at I hk2 d2 d3)
   rw [den_op hcur]
   refine wpList_step fun K hK=>?_
   rw [if_pos hg]
   simp only [Oper.wp,ex_append hop hs hx hr,Oper.upon]
   have hR:=rest c
   have hq:aftA0 P T b2 c q={ q with cur:=.ops all rst,fr:=putF q.fr o.dst (some (.s (.o (.sl q.bl.length 0 1 (c+1))))),bl:=q.bl++[⟨T,mkN ((c+1)*szX P T)::k2.cells,true,none,false⟩] }:=by unfold aftA0;rw [hcur,hc2]
   rw [hq] at hR
   have hf' := hf
   simp only [fitB,MS.okB,Bool.and_eq_true] at hf'
   obtain⟨⟨⟨f0,f1⟩,f2⟩,f3⟩:=hf'
   have f2:=Nat.eq_of_beq_eq_true f2
   have f3:=Nat.eq_of_beq_eq_true f3
   obtain⟨I1,ac1⟩:=I.more (κs:=[]) (φs:=[]) (xs:=[]) hf hbel (fun n=>rfl) (fun n=>rfl) (fun n ψ hn=>(by cases n<;>cases hn))
   have hE:Env.more ⟨β,κ', ℓ⟩ [] q.nv []=⟨β,κ'++[],fun n=>if n<q.nv then ℓ n else kat [] (n-q.nv)⟩:=rfl
   have s1:Same q.bl.length q.nk q.nv ⟨β,κ', ℓ⟩ (Env.more ⟨β,κ', ℓ⟩ [] q.nv []):=more_same (by rw [f2];exact Nat.le_refl _)
   have hcell:k2.cells.map (At.d (Env.more ⟨β,κ', ℓ⟩ [] q.nv []))=k2.cells.map (At.d ⟨β,κ', ℓ⟩):=At.sameL s1 (List.all_eq_true.1 f1 k2 (nth_mem hk2))
   obtain⟨I2,s2⟩:=I1.addB (b:=w.heap.size) (T:=T) (nk:=q.nk) (nv:=q.nv) (cs:=mkN ((c+1)*szX P T)::k2.cells) rfl f1 (by show (true&&_)=true;rw [Bool.true_and];exact List.all_eq_true.1 f1 k2 (nth_mem hk2))
    I.bel.size (lt_of hB) (.inr (Nat.le_refl _)) (fun c k hk=>Nat.ne_of_lt (I.lt c k hk)) ⟨cur.toList.drop (szX P T),by
     show w'.heap[w.heap.size]? = some (.cells ⟨k2.cells.map (At.d (Env.more ⟨β,κ', ℓ⟩ [] q.nv []))++_⟩ T (0,0))
     rw [hcell,hB]
     congr 2
     apply Array.toList_inj.1
     show cur.toList=_++cur.toList.drop (szX P T)
     rw [← htk,t7,List.take_append_drop],fun h=>(by cases h),fun N hN=>by
     have hN:(c+1)*szX P T=N:=Option.some.inj hN
     show k2.cells.length+(cur.toList.drop (szX P T)).length=N
     have h9:szX P T≤(c+1)*szX P T:=Nat.le_mul_of_pos_left _ (Nat.succ_pos c)
     rw [List.length_drop,Array.length_toList,hcs,t7,← hN,d4]
     generalize (c+1)*szX P T=M at *
     omega⟩
   have G1:=ac1 _ G
   have G2:=put_v (G1.same s2 f0) o.dst (.s (.o (.sl q.bl.length 0 1 (c+1))))
   have e2:(SV.s (.o (.sl q.bl.length 0 1 (c+1)))).d ⟨fun c=>if c=q.bl.length then w.heap.size else (Env.more ⟨β,κ', ℓ⟩ [] q.nv []).β c,(Env.more ⟨β,κ', ℓ⟩ [] q.nv []).κ,(Env.more ⟨β,κ', ℓ⟩ [] q.nv []).ℓ⟩=.slice (some ⟨w.heap.size,0,none⟩) 1 (c+1):=by
    show Value.slice (some ⟨if q.bl.length=q.bl.length then w.heap.size else _,0,none⟩) 1 (c+1)=_
    rw [if_pos rfl]
   rw [e2] at G2
   have hR2:=hR.r _ _ _ w' (by simpa using I2) G2
   exact hK _ _ hR2
  ·cases hok
theorem Run.ap(TS:TypeId)(b n cap b2:Nat)(rest:∀ c,Run P S W κ Φ Q (aftA P b n b2 c (runM P far m)))(ha:apOf (runM P far m)=some (TS,.s (.o (.sl b 0 n (cap+n))),.s (.o (.sl b2 0 1 1))):=by kernel_rfl)(hm:(nth (runM P far m).bl b).bind (fun k=>sizeT k.cells)=some ((cap+n)*szX P (tyOf (runM P far m) b)):=by kernel_rfl)(hok:apOk P TS b n b2 (runM P far m)=true:=by kernel_rfl)(hf:fitB (runM P far m) κ Φ=true:=by kernel_rfl):Run P S W κ Φ Q m :=
 run_sound far <| Run.mk fun A0 E a w I G=>by
  obtain⟨β,κ', ℓ⟩:=E
  have e:=I.ek
  simp only at e
  subst e
  generalize hm' : runM P far m=q at *
  obtain⟨o,all,rst,s,x,hcur,hg,hop,hs,hx⟩:=ap_enter ha G
  unfold apOk at hok
  split at hok
  ·rename_i k hk
   simp only [Bool.and_eq_true,Bool.not_eq_true'] at hok
   obtain⟨⟨⟨⟨⟨⟨⟨⟨hnew,g1⟩,g2⟩,g4⟩,g5⟩,g6⟩,g7⟩,g8⟩,g9⟩:=hok
   unfold newB at hnew
   split at hnew
   ·rename_i k2 hk2
    simp only [Bool.and_eq_true,Bool.not_eq_true'] at hnew
    obtain⟨⟨⟨⟨⟨d1,d2⟩,d3⟩,d4⟩,d5⟩,d6⟩:=hnew
    obtain⟨i,z,t1,t2,t3,t4,t5,t6,t7⟩:=elB_ex d1
    have d2:k2.fact=none:=by cases h:k2.fact with|none=>rfl|some _=>rw [h] at d2;cases d2
    have g2:k.fact=none:=by cases h:k.fact with|none=>rfl|some _=>rw [h] at g2;cases g2
    have d4:=Nat.eq_of_beq_eq_true d4
    have g5:=Nat.le_of_ble_eq_true g5
    have g7:=Nat.eq_of_beq_eq_true g7
    have hone:=(I.sees G).all d5
    have hc2:cellsOf q b2=k2.cells:=by unfold cellsOf;rw [hk2];exact bodyC_no d3
    have hc1:cellsOf q b=bodyC k.cells:=by unfold cellsOf;rw [hk]
    have hty:tyOf q b=k.ty:=by unfold tyOf;rw [hk]
    rw [hk,hty] at hm
    have hm:sizeT k.cells=some ((cap+n)*szX P k.ty):=hm
    obtain⟨r,hB,_,hN⟩:=I.blk b k hk g2
    have hN:=hN _ hm
    have hcs:(⟨(bodyC k.cells).map (At.d ⟨β,κ', ℓ⟩)++r⟩:Array Value).size=(cap+n)*i.size:=by
     rw [t7,← hN];simp
    obtain⟨g', c,cur', w', hr,w1,w2,w3,w4,w5,w6,w7,w8,w9⟩:=ap_own (P:=P) (w:=w) (ty:=o.type) t1 t2 t3 rfl rfl t4 t5 t6 ⟨β b2,0,none⟩ 1 (k2.cells.map (At.d ⟨β,κ', ℓ⟩)) (by rw [List.length_map];omega) (news_at I hk2 d2 d3) hone hB hcs g5
    rw [den_op hcur]
    refine wpList_step fun K hK=>?_
    rw [if_pos hg]
    simp only [Oper.wp,ex_append hop hs hx hr,Oper.upon]
    have hR:=rest c
    have hq:aftA P b n b2 c q={ q with cur:=.ops all rst,fr:=putF (dropB b q.fr) o.dst (some (.s (.o (.sl b 0 (n+1) (c+(n+1)))))),bl:=setL q.bl b ⟨k.ty,mkN ((c+(n+1))*szX P k.ty)::(bodyC k.cells++k2.cells),true,none,false⟩ }:=by unfold aftA;rw [hcur,hc2,hc1,hty]
    rw [hq] at hR
    have hothers:∀ c l,nth q.bl c=some l→c≠b→l.cells.all (noB b)=true:=fun c l h hc=>by
     have:=List.all_eq_true.1 g9 c (List.mem_range.2 (nth_lt h))
     rw [h,Bool.or_eq_true] at this
     exact this.resolve_left fun e=>hc (Nat.eq_of_beq_eq_true e)
    have hb2:k2.cells.all (noB b)=true:=hothers b2 k2 hk2 (fun e=>by subst e;rw [Nat.beq_refl] at g4;cases g4)
    have hbk:(bodyC k.cells).all (noB b)=true:=by
     refine List.all_eq_true.2 fun x hx=>List.all_eq_true.1 g8 x ?_
     cases hkc:k.cells with
     | nil=>rw [hkc] at hx;cases hx
     | cons y l =>
      rw [hkc] at hx
      have hx:x ∈ (if isT y then l else y::l):=hx
      split at hx
      ·exact List.mem_cons_of_mem _ hx
      ·exact hx
    have hn1:(n+1)*i.size=(bodyC k.cells++k2.cells).length:=by rw [List.length_append,g7,d4,t7,Nat.succ_mul]
    have htk:(⟨(bodyC k.cells).map (At.d ⟨β,κ', ℓ⟩)++r⟩:Array Value).toList.take (n*i.size)=(bodyC k.cells).map (At.d ⟨β,κ', ℓ⟩):=by
     rw [t7,← g7]
     have:(bodyC k.cells).length=((bodyC k.cells).map (At.d ⟨β,κ', ℓ⟩)).length:=by rw [List.length_map]
     rw [this];exact List.take_left
    rw [htk,hn1] at w9
    have I2:=I.reB (g:=g') (cs:=mkN ((c+(n+1))*szX P k.ty)::(bodyC k.cells++k2.cells)) hk g2 g1 d6 (fun c l h hc=>noB_L (hothers c l h hc)) w1 w2 w3 w4 w5 w6 (lt_of w7) ⟨cur'.toList.drop (bodyC k.cells++k2.cells).length,by
     show w'.heap[g']? = some (.cells ⟨(bodyC k.cells++k2.cells).map (At.d (reE ⟨β,κ', ℓ⟩ b g'))++_⟩ k.ty (0,0))
     rw [List.map_append,noB_L hbk,noB_L hb2,w7]
     congr 2
     apply Array.toList_inj.1
     show cur'.toList=_++cur'.toList.drop _
     rw [← w9,List.take_append_drop],fun h=>(by cases h),fun N hN=>by
     have hN:(c+(n+1))*szX P k.ty=N:=Option.some.inj hN
     have h8:cur'.toList.length=(c+(n+1))*i.size:=by rw [Array.length_toList];exact w8
     have h9:(n+1)*i.size≤(c+(n+1))*i.size:=Nat.mul_le_mul_right _ (by omega)
     show (bodyC k.cells++k2.cells).length+(cur'.toList.drop (bodyC k.cells++k2.cells).length).length=N
     rw [List.length_drop,h8,← hN,← hn1,← t7]
     generalize (c+(n+1))*i.size=M at *
     omega⟩
    have G1:=G.drop (b:=b) (g:=g')
    have G2:=put_v G1 o.dst (.s (.o (.sl b 0 (n+1) (c+(n+1)))))
    have e2:(SV.s (.o (.sl b 0 (n+1) (c+(n+1))))).d (reE ⟨β,κ', ℓ⟩ b g')=.slice (some ⟨g', 0,none⟩) (n+1) (c+(n+1)):=by
     show Value.slice (some ⟨if b=b then g' else _,0,none⟩) (n+1) (c+(n+1))=_
     rw [if_pos rfl]
    rw [e2] at G2
    exact hK _ _ (hR.r _ _ _ w' I2 G2)
   ·cases hnew
  ·cases hok
theorem reE_self{E:Env}{b:Nat}:reE E b (E.β b)=E:=by
 unfold reE
 obtain⟨β,κ', ℓ⟩:=E
 congr 1
 funext c
 show (if c=b then β b else β c)=β c
 split
 ·rename_i h;rw [h]
 ·rfl
def stOf(m:MS):Option (TypeId×SV×SV) :=
 match opOf m with
 | some o=>match o.op with
  | .store t x y=>match eoF m.fr x,eoF m.fr y with
   | some u,some v=>some (t,u,v)
   | _,_=>none
  | _=>none
 | none=>none
def hdC:List At→At
 | a::_=>a
 | []=>cU0
where cU0:At:=.c undef
def smOk(P:Program)(b off:Nat)(m:MS):Bool :=
 match stOf m with
 | some (t,.s (.o (.p b' off')),.s v)=>Nat.beq b' b&&Nat.beq off' off&&match nth m.bl b,szOf P t with
  | some k,some n=>k.own&&k.fact.isNone&&Rgn.Loc k.ty&&headT k.cells&&Nat.beq n v.cl.length&&(off+n).ble (bodyC k.cells).length&&v.cl.all At.one
  | _,_=>false
 | _=>false
def valS(m:MS):List At:=match stOf m with|some (_,_,.s v)=>v.cl|_=>[]
def aftS(b off:Nat)(m:MS):MS :=
 match m.cur with
 | .ops all (o::rest)=>{ m with cur:=.ops all rest,fr:=putF m.fr o.dst (some cU),bl:=match nth m.bl b with|some k=>setL m.bl b ⟨k.ty,hdC k.cells::putAt (bodyC k.cells) off (valS m),true,none,false⟩|none=>m.bl }
 | _=>m
theorem putAt_len{cs vs:List At}{off:Nat}(h:off+vs.length≤cs.length):(putAt cs off vs).length=cs.length:=by
 unfold putAt;simp only [List.length_append,List.length_take,List.length_drop];omega
theorem Run.sm(b off:Nat)(rest:Run P S W κ Φ Q (aftS b off (runM P far m)))(hok:smOk P b off (runM P far m)=true:=by kernel_rfl):Run P S W κ Φ Q m :=
 run_sound far <| Run.mk fun A0 E a w I G=>by
  generalize hm' : runM P far m=q at *
  unfold smOk at hok
  split at hok
  ·rename_i t b' off' v hst
   simp only [Bool.and_eq_true] at hok
   obtain⟨⟨e1,e2⟩,hok⟩:=hok
   have e1:=Nat.eq_of_beq_eq_true e1
   have e2:=Nat.eq_of_beq_eq_true e2
   subst e1
   subst e2
   split at hok
   ·rename_i k n hk hn
    simp only [Bool.and_eq_true] at hok
    obtain⟨⟨⟨⟨⟨⟨c1,c2⟩,c3⟩,c4⟩,c5⟩,c6⟩,c7⟩:=hok
    have c5:=Nat.eq_of_beq_eq_true c5
    have c6:=Nat.le_of_ble_eq_true c6
    have c2:k.fact=none:=by cases h:k.fact with|none=>rfl|some _=>rw [h] at c2;cases c2
    have hv:valS q=v.cl:=by unfold valS;rw [hst]
    unfold stOf at hst
    split at hst
    ·rename_i o ho
     split at hst
     ·rename_i t' x y hop
      split at hst
      ·rename_i u u' hx hy
       cases hst
       obtain⟨all,rst,hcur⟩:=op_cur ho
       obtain⟨_,hg⟩:=guard_ok G hcur ho
       have hx:=eval_eo G x _ hx
       have hy:=eval_eo G y _ hy
       have hx:a.eval x=.pointer (some ⟨E.β b', off', none⟩):=hx
       have hcl:=(I.sees G).cl c7
       have hy:a.eval y=v.d E:=hy
       obtain⟨r,hB,_,hN⟩:=I.blk b' k hk c2
       have hs:=run_storeCells_at (P:=P) (E.β b') off' k.ty (v.cl.map (At.d E)) 0 ⟨(bodyC k.cells).map (At.d E)++r⟩ w hB (by simp;omega) ((I.sees G).all c7)
       rw [den_op hcur]
       cases hq:P.info? t with
       | none=>simp [szOf,hq] at hn
       | some i =>
        have hsz:v.cl.length=i.size:=by simp [szOf,hq] at hn;omega
        have hput:(⟨((bodyC k.cells).map (At.d E)++r).take off'++v.cl.map (At.d E)++((bodyC k.cells).map (At.d E)++r).drop (off'+v.cl.length)⟩:Array Value)=⟨(putAt (bodyC k.cells) off' v.cl).map (At.d E)++r⟩:=by
         congr 1
         rw [List.take_append_of_le_length (by simp;omega),List.drop_append_of_le_length (by simp;omega)]
         simp [putAt,List.map_take,List.map_drop,List.append_assoc]
        have hr:(storeVar t ⟨E.β b', off', none⟩ (v.d E)).run P w=.ok () (w.setRow (E.β b') ⟨(putAt (bodyC k.cells) off' v.cl).map (At.d E)++r⟩):=by
         rw [← hput]
         simp only [storeVar,sizeOf,typeInfo,Sem.run_bind]
         simp [hq,hcl,hsz,hs]
        have hrun:(execOp a.eval o).run P w=.ok .skip (w.setRow (E.β b') ⟨(putAt (bodyC k.cells) off' v.cl).map (At.d E)++r⟩):=by
         unfold execOp
         simp only [hop,hx,hy,Instr.storeAt,Instr.sureAddr,Sem.run_bind,Sem.run_pure,Result.andThen_ok,hr]
        refine wL_skip hg hrun ?_
        have hq' : aftS b' off' q={ q with cur:=.ops all rst,fr:=putF q.fr o.dst (some cU),bl:=setL q.bl b' ⟨k.ty,hdC k.cells::putAt (bodyC k.cells) off' v.cl,true,none,false⟩ }:=by unfold aftS;rw [hcur,hk,hv]
        rw [hq'] at rest
        have ho:=setRow_only w (E.β b') ⟨(putAt (bodyC k.cells) off' v.cl).map (At.d E)++r⟩
        have hhd:∃ l,k.cells=hdC k.cells::l∧isT (hdC k.cells)=true∧bodyC k.cells=l:=by
         cases hc:k.cells with
         | nil=>rw [hc] at c4;cases c4
         | cons x l =>
          rw [hc] at c4
          have c4:isT x=true:=c4
          exact⟨l,rfl,c4,by show (if isT x then l else x::l)=l;rw [if_pos c4]⟩
        obtain⟨l,hkc,hT,hbl⟩:=hhd
        have hbody:bodyC (hdC k.cells::putAt (bodyC k.cells) off' v.cl)=putAt (bodyC k.cells) off' v.cl:=by
         show (if isT (hdC k.cells) then _ else _)=_;rw [if_pos hT]
        have I2:=I.reB (g:=E.β b') (cs:=hdC k.cells::putAt (bodyC k.cells) off' v.cl) (w' := w.setRow (E.β b') ⟨(putAt (bodyC k.cells) off' v.cl).map (At.d E)++r⟩) hk c2 c1 c3 (fun c l _ _=>by rw [reE_self]) rfl rfl rfl (by simp [World.setRow]) (fun j hj hne=>ho.block j hj hne) (.inl rfl) (by simp [World.setRow];exact I.lt b' k hk) ⟨r,by
         rw [reE_self,hbody];exact setRow_at hB,fun h=>(by have h:isT (hdC k.cells)=false:=h;rw [hT] at h;cases h),fun N hN' => by
         rw [hbody,putAt_len (by omega)]
         refine hN N ?_
         rw [hkc];exact hN'⟩
        rw [reE_self] at I2
        exact rest.r _ _ _ _ I2 (put_v G o.dst cU)
      ·cases hst
     ·cases hst
    ·cases hst
   ·cases hok
  ·cases hok
def unOf(fr:List (Option SV))(o:Oper):Option SV :=
 match o.op with
 | .unOp .neg _ x=>eoF fr x
 | _=>none
theorem ex_neg{n:Int}(hw:IntKind.wrap .i64 (-n)=-n){ρ:Operand→Value}{o:Oper}{w:World}{x:Operand}{t:TypeId}(ho:o.op=.unOp .neg t x)(hx:ρ x=.int .i64 n):(execOp ρ o).run P w=.ok (.value (.int .i64 (-n))) w:=by
 have e:IntKind.wrap .i64 (0-n)=-n:=by rw [Int.zero_sub];exact hw
 unfold execOp;simp [ho,hx,Op.unary,Op.intArith,hw,Result.andThen]
theorem Run.un(n:Int)(hw:IntKind.wrap .i64 (-n)=-n)(rest:Run P S W (κ++[.int .i64 (-n)]) (Φ++[]) Q (aft (runM P far m) kb 1 0))(ha:∀ β ℓ,((opOf (runM P far m)).bind (unOf (runM P far m).fr)).map (SV.d ⟨β,κ,ℓ⟩)=some (.int .i64 n):=by intro β ℓ;kernel_rfl)(hf:fitB (runM P far m) κ Φ=true:=by kernel_rfl):Run P S W κ Φ Q m:=by
 refine Run.va (V:=.int .i64 (-n)) [.int .i64 (-n)] kb (a:=fun o β ℓ ρ=>∃ t x,o.op=.unOp .neg t x∧ρ x=.int .i64 n) (fun {A} β ℓ w o ρ I hp=>?_) rest (fun β ℓ a A=>?_) (fun _ _=>rfl) rfl hf rfl
 ·obtain⟨t,x,h1,h2⟩:=hp
  exact ex_neg hw h1 h2
 ·have ha:=ha β ℓ
  cases ho:opOf (runM P far m) with
  | none=>rw [ho] at ha;cases ha
  | some o =>
   rw [ho] at ha
   refine⟨o,rfl,?_⟩
   have ha:(unOf (runM P far m).fr o).map _=some _:=ha
   unfold unOf at ha
   split at ha
   ·rename_i t x hop
    cases hx:eoF (runM P far m).fr x with
    | none=>rw [hx] at ha;cases ha
    | some v=>rw [hx] at ha;exact⟨t,x,hop,(eval_eo A x v hx).trans (Option.some.inj ha)⟩
   ·cases ha
def unD(ops:Array Oper)(m:MS)(pl:List PE)(o:Oper):Option SV :=
 match o.op with
 | .unOp .neg _ x=>eoD ops m pl pl.length x
 | _=>none
theorem RunD.un{ops:Array Oper}{κ0:List Value}{Φ0:List VP}{pl:List PE}(n:Int)(hw:IntKind.wrap .i64 (-n)=-n)(rest:RunD P S W Q ops m κ0 Φ0 (plV P ops m pl kb 1) (κ++[.int .i64 (-n)]) Φ)(ha:∀ more β ℓ,((opD ops (plN P ops m pl)).bind (unD ops m (plN P ops m pl))).map (SV.d ⟨β,κ++more,ℓ⟩)=some (.int .i64 n):=by intro more β ℓ;kernel_rfl):RunD P S W Q ops m κ0 Φ0 pl κ Φ:=by
 refine⟨fun g=>rest.h (Good.va (good_run far g) (fun {A more} β ℓ w I ρ hρ=>?_) (kat_all (l:=[.int .i64 (-n)]) rfl))⟩
 have ha:=ha more β ℓ
 unfold opD at ha
 cases ho:ops[(runD P ops m far pl).length]? with
 | none=>rw [show ops[(plN P ops m pl).length]? = none from ho] at ha;cases ha
 | some o =>
  rw [show ops[(plN P ops m pl).length]? = some o from ho] at ha
  simp only at ha
  split at ha
  ·rename_i hw'
   refine⟨o,.int .i64 (-n),rfl,hw', ?_,fun E hk=>by rw [SV.okB_up (κs:=[.int .i64 (-n)]) (φs:=[]) (xs:=[]) rfl hk (fun n hn=>by cases hn)];rfl⟩
   simp only [Option.bind_some] at ha
   unfold unD at ha
   split at ha
   ·rename_i t x hop
    cases hx:eoD ops m (plN P ops m pl) (plN P ops m pl).length x with
    | none=>rw [hx] at ha;cases ha
    | some v=>rw [hx] at ha;exact ex_neg hw hop ((hρ x v hx).trans (Option.some.inj ha))
   ·cases ha
  ·cases ha
theorem HC.r{E:Env}{cs:List At}{T:TypeId}{o:Option Obj}{ys:List Value}(h:HC E cs T o)(e:(bodyC cs).map (At.d E)=ys):∃ r:List Value,o=Option.some (Obj.cells ⟨ys++r⟩ T (0,0)):=by
 obtain⟨r,h1,_⟩:=h
 exact⟨r,by rw [← e];exact h1⟩
theorem Inv.br{β:Nat→Nat}{κ': List Value}{ℓ:Nat→Value}{bl:List Blk}{sf:List Nat}{w:World}(I:Inv A S W κ Φ ⟨β,κ', ℓ⟩ bl sf w)(n:Nat){ys:List Value}{T:TypeId}(h:(nthB bl n).map (fun k=>(k.ty,(bodyC k.cells).map (At.d ⟨β,κ', ℓ⟩)))=some (T,ys):=by kernel_rfl):∃ r:List Value,w.heap[β n]? = some (.cells ⟨ys++r⟩ T (0,0)):=by
 cases hk:nthB bl n with
 | none=>rw [hk] at h;cases h
 | some k =>
  rw [hk] at h
  simp only [Option.map_some,Option.some.injEq,Prod.mk.injEq] at h
  obtain⟨rfl,h2⟩:=h
  obtain⟨h3,h4⟩:=nthB_ex hk
  exact (I.blk n k h3 h4).r h2
theorem InvU.br{β:Nat→Nat}{κ': List Value}{ℓ:Nat→Value}{bl:Nat→Option Blk}{vis:Nat→Bool}{w:World}(I:InvU A Φ ⟨β,κ', ℓ⟩ bl vis w)(n:Nat){ys:List Value}{T:TypeId}(h:(clear (bl n)).map (fun k=>(k.ty,(bodyC k.cells).map (At.d ⟨β,κ', ℓ⟩)))=some (T,ys):=by kernel_rfl):∃ r:List Value,w.heap[β n]? = some (.cells ⟨ys++r⟩ T (0,0)):=by
 cases hk:clear (bl n) with
 | none=>rw [hk] at h;cases h
 | some k =>
  rw [hk] at h
  simp only [Option.map_some,Option.some.injEq,Prod.mk.injEq] at h
  obtain⟨rfl,h2⟩:=h
  obtain⟨h3,h4⟩:=clear_ex hk
  exact (I.blk n k h3 h4).r h2
theorem HC.q{E:Env}{cs:List At}{T:TypeId}{o:Option Obj}{ys:List Value}{q:Nat}(h:HC E cs T o)(e:((bodyC cs).map (At.d E)).take q=ys):∃ r:List Value,o=Option.some (Obj.cells ⟨ys++r⟩ T (0,0)):=by
 obtain⟨r,h1,_⟩:=h
 exact⟨((bodyC cs).map (At.d E)).drop q++r,by rw [← e,← List.append_assoc,List.take_append_drop];exact h1⟩
theorem Inv.bq{β:Nat→Nat}{κ': List Value}{ℓ:Nat→Value}{bl:List Blk}{sf:List Nat}{w:World}(I:Inv A S W κ Φ ⟨β,κ', ℓ⟩ bl sf w)(n q:Nat){ys:List Value}{T:TypeId}(h:(nthB bl n).map (fun k=>(k.ty,((bodyC k.cells).map (At.d ⟨β,κ', ℓ⟩)).take q))=some (T,ys):=by kernel_rfl):∃ r:List Value,w.heap[β n]? = some (.cells ⟨ys++r⟩ T (0,0)):=by
 cases hk:nthB bl n with
 | none=>rw [hk] at h;cases h
 | some k =>
  rw [hk] at h
  simp only [Option.map_some,Option.some.injEq,Prod.mk.injEq] at h
  obtain⟨rfl,h2⟩:=h
  obtain⟨h3,h4⟩:=nthB_ex hk
  exact (I.blk n k h3 h4).q h2
theorem InvU.bq{β:Nat→Nat}{κ': List Value}{ℓ:Nat→Value}{bl:Nat→Option Blk}{vis:Nat→Bool}{w:World}(I:InvU A Φ ⟨β,κ', ℓ⟩ bl vis w)(n q:Nat){ys:List Value}{T:TypeId}(h:(clear (bl n)).map (fun k=>(k.ty,((bodyC k.cells).map (At.d ⟨β,κ', ℓ⟩)).take q))=some (T,ys):=by kernel_rfl):∃ r:List Value,w.heap[β n]? = some (.cells ⟨ys++r⟩ T (0,0)):=by
 cases hk:clear (bl n) with
 | none=>rw [hk] at h;cases h
 | some k =>
  rw [hk] at h
  simp only [Option.map_some,Option.some.injEq,Prod.mk.injEq] at h
  obtain⟨rfl,h2⟩:=h
  obtain⟨h3,h4⟩:=clear_ex hk
  exact (I.blk n k h3 h4).q h2
theorem AllF.app{S:Nat→Prop}{w:World}:∀ {xs ys:List Value} {φs ψs:List VP},AllF S w xs φs→AllF S w ys ψs→AllF S w (xs++ys) (φs++ψs)
 | [],_,[],_,_,h=>h
 | x::xs,_,φ::φs,_,h,g=>⟨h.1,AllF.app h.2 g⟩
theorem Pack.bc{vs': List Value}{svs:List SV}{bl:List Blk}(pk:Pack S W vs' svs bl κ Φ){b:Nat}{cs:List Value}{T:TypeId}(B:W.heap[b]? = some (.cells ⟨cs⟩ T (0,0)))(row:Option Nat)(hT:headT (cs.map At.c)=false:=by rfl)(h:packB svs bl κ.length Φ.length=true:=by kernel_rfl):Pack S W (vs'++[rowV b row]) (svs++[rowS bl.length row]) (bl++[⟨T,cs.map At.c,false,none,false⟩]) κ Φ:=by
 obtain⟨xs,β,h0,h1,h2,h3,h4⟩:=pk.ex
 simp only [packB,Bool.and_eq_true] at h
 let β' : Nat→Nat:=fun i=>if i=bl.length then b else β i
 have s:Same bl.length κ.length Φ.length ⟨β,κ,kat xs⟩ ⟨β', κ,kat xs⟩:=⟨fun i hi=>if_neg (Nat.ne_of_lt hi),fun n hn=>rfl,fun n hn=>rfl⟩
 have hb:β' bl.length=b:=if_pos rfl
 refine⟨xs,β', h0,h1,?_,h3,fun i k hk=>?_⟩
 ·rw [List.map_append,SV.sameL s h.1,← h2]
  congr 1
  show [rowV b row]=[(rowS bl.length row).d ⟨β', κ,kat xs⟩]
  cases row<;>simp [rowV,rowS,SV.d,S1.d,At.d,hb]
 ·rcases nth_snoc hk with hk|⟨rfl,rfl⟩
  ·obtain⟨g,g'⟩:=h4 i k hk
   exact⟨g,by rw [show β' i=β i from if_neg (Nat.ne_of_lt (nth_lt hk))];exact g'.env (At.sameL s (List.all_eq_true.1 h.2 k (nth_mem hk)))⟩
  ·refine⟨⟨rfl,rfl,rfl⟩,HC.mk ?_ hT⟩
   rw [hb,B,List.map_map,show (At.d ⟨β', κ,kat xs⟩ ∘ At.c)=id from rfl,List.map_id]
theorem AllF.z{S:Nat→Prop}{w:World}:AllF S w [] []:=trivial
theorem AllF.rat{S:Nat→Prop}{W:World}{v:Value}{q:Rat}{xs:List Value}{φs:List VP}(h:(RatP q).p S v W)(t:AllF (Amb S W) W xs φs):AllF (Amb S W) W (v::xs) (RatP q::φs):=⟨⟨VP1.rat h,(RatP q).amb h⟩,t⟩
theorem Pack.bm{vs': List Value}{svs:List SV}{bl:List Blk}(pk:Pack S W vs' svs bl κ Φ){b:Nat}{ys:List Value}{φs:List VP}{T:TypeId}(B:∃ r:List Value,W.heap[b]? = some (.cells ⟨ys++r⟩ T (0,0)))(len cap n:Nat)(hF:AllF (Amb S W) W ys φs)(hn:φs.length=n:=by rfl)(h:packB svs bl κ.length Φ.length=true:=by kernel_rfl):Pack S W (vs'++[.slice (some ⟨b,0,none⟩) len cap]) (svs++[.s (.o (.sl bl.length 0 len cap))]) (bl++[⟨T,mkT::vs Φ.length n,false,none,false⟩]) κ (Φ++φs):=by
 obtain⟨xs,β,h0,h1,h2,h3,h4⟩:=pk.ex
 have g0:=hF.len
 have g1:=hF.one
 have g3:=hF.fac
 simp only [packB,Bool.and_eq_true] at h
 let β' : Nat→Nat:=fun i=>if i=bl.length then b else β i
 have s:Same bl.length κ.length Φ.length ⟨β,κ,kat xs⟩ ⟨β', κ,kat (xs++ys)⟩:=⟨fun i hi=>if_neg (Nat.ne_of_lt hi),fun n hn=>rfl,fun n hn=>kat_left _ _ _ (by omega)⟩
 have hb:β' bl.length=b:=if_pos rfl
 refine⟨xs++ys,β', by simp [h0,g0],fun n=>?_,?_,fun n ψ hn=>?_,fun i k hk=>?_⟩
 ·rcases kat_or xs ys n with e|⟨j,e⟩
  ·rw [e];exact h1 n
  ·rw [e];exact g1 j
 ·rw [List.map_append,SV.sameL s h.1,← h2]
  congr 1
  show [Value.slice (some ⟨b,0,none⟩) len cap]=[.slice (some ⟨β' bl.length,0,none⟩) len cap]
  rw [hb]
 ·rcases Nat.lt_or_ge n Φ.length with hn'|hn'
  ·rw [nth_eq,List.getElem?_append_left hn'] at hn
   rw [kat_left _ _ _ (by omega)]
   exact h3 n ψ (by rw [nth_eq];exact hn)
  ·rw [nth_eq,List.getElem?_append_right hn'] at hn
   have e:kat (xs++ys) n=kat ys (n-Φ.length):=by
    rw [← kat_app xs ys (n-Φ.length)]
    congr 1
    omega
   rw [e]
   exact g3 _ ψ (by rw [nth_eq];exact hn)
 ·rcases nth_snoc hk with hk|⟨rfl,rfl⟩
  ·obtain⟨g,g'⟩:=h4 i k hk
   exact⟨g,by rw [show β' i=β i from if_neg (Nat.ne_of_lt (nth_lt hk))];exact g'.env (At.sameL s (List.all_eq_true.1 h.2 k (nth_mem hk)))⟩
  ·obtain⟨r,B⟩:=B
   refine⟨⟨rfl,rfl,rfl⟩,r,?_,fun h=>(by cases h),fun N h=>(by cases h)⟩
   rw [hb,B]
   have key:∀ (l:List Value) (x0:List Value),(vs x0.length l.length).map (At.d ⟨β', κ,kat (x0++l)⟩)=l:=by
    intro l
    induction l with
    | nil=>intro x0;rfl
    | cons x l ih =>
     intro x0
     have h5:=ih (x0++[x])
     rw [List.length_append,List.append_assoc] at h5
     simp only [List.length_cons,List.length_nil,Nat.zero_add,List.singleton_append] at h5
     show kat (x0++x::l) x0.length::(vs (x0.length+1) l.length).map _=x::l
     rw [h5]
     congr 1
     exact kat_app x0 (x::l) 0
   have k2:=key ys xs
   rw [h0] at k2
   show some (Obj.cells ⟨ys++r⟩ T (0,0))=some (.cells ⟨(vs Φ.length n).map _++r⟩ T (0,0))
   rw [← hn,← g0,k2]
def facs(Φ:List VP)(sf:List Nat):List At→Option (List VP)
 | []=>some []
 | .v n::l=>match nth Φ n,hasN sf n,facs Φ sf l with
  | some φ,false,some r=>some (φ::r)
  | _,_,_=>none
 | _=>none
theorem facs_all{E:Env}{bl:List Blk}{sf:List Nat}{w:World}(I:InvE S W κ Φ E bl sf w):∀ (l:List At) (φs:List VP),facs Φ sf l=some φs→AllF (Amb S W) w (l.map (At.d E)) φs
 | [],φs,h=>by cases h;trivial
 | .v n::l,φs,h=>by
  unfold facs at h
  split at h
  ·rename_i φ r h1 h2 h3
   cases h
   exact⟨⟨I.ol n,I.fac n φ h1 h2⟩,facs_all I l r h3⟩
  ·cases h
theorem Run.rB{fn:Func}{T:TypeId}{n:Nat}{φs:List VP}{V:Value}(b cap:Nat)(hv:finV P fn.results (runM P far m)=some (.tup [.o (.sl b 0 n (cap+n)),.o (.c V)]):=by kernel_rfl)(hb:(nthB (runM P far m).bl b).map (fun k=>(k.ty,k.own))=some (T,true):=by kernel_rfl)(hφ:facs Φ (runM P far m).sf (cellsOf (runM P far m) b)=some φs:=by kernel_rfl):Run P S W κ Φ (bodyPost P fn (RetB T n φs V S W)) m:=by
 refine Run.fin (v:=fun β ℓ=>.tuple #[.slice (some ⟨β b,0,none⟩) n (cap+n),V]) (fun β ℓ w I=>?_) (fun β ℓ=>by rw [hv];rfl)
 cases hk:nthB (runM P far m).bl b with
 | none=>rw [hk] at hb;cases hb
 | some k =>
  rw [hk] at hb
  simp only [Option.map_some,Option.some.injEq,Prod.mk.injEq] at hb
  obtain⟨rfl,hown⟩:=hb
  obtain⟨h3,h4⟩:=nthB_ex hk
  have hc:cellsOf (runM P far m) b=bodyC k.cells:=by unfold cellsOf;rw [h3]
  rw [hc] at hφ
  obtain⟨r,hB,_⟩:=I.blk b k h3 h4
  refine⟨β b,cap,_,(bodyC k.cells).map (At.d ⟨β,κ,ℓ⟩),rfl,I.own b k h3 hown,hB,?_,facs_all I _ _ hφ,I.bel⟩
  exact List.take_left
end
end Go.Proofs.YtcboejgklgnifaaGreat.Eng
namespace Go.Proofs.YtcboejgklgnifaaGreat
open Go.RowKit Rgn
variable {S:Nat→Prop} {W:World}
theorem eRatR{v0:Value}(x:Rat)(t0:(RatP x).p S v0 W):Calls Tryz.prog 171 #[v0] W (Ret (RatP x) S W):=by
 obtain⟨b1,rfl,L1,F1⟩:=RatP.elim t0
 replace L1:Amb S W b1:=.inl L1
 have bel:=b0 W
 go_enter Tryz.func171,Tryz.ntmps171
 refine gs 1 (Amb S W) fun _ K2=>?_
 refine .mc rfl ?_
 refine .dk (fun u=>pt b1::U::u 0::us 4) K2 bel fun u1 w1 D bel=>?_
 have E1_0:=D.q 0
 replace F1:=D.o L1 F1
 clear D
 refine wp_seq_k fun _ K3=>?_
 refine gs 2 (Amb S W) fun _ K4=>?_
 refine .mz rfl 0 (V:=pt b1) rfl ?_
 refine .e rfl (V:=.bool false) (fun H=>x_pnE (H.g 3 0) (H.c _)) ?_
 refine .dk (fun u=>pt b1::U::u1 0::u 0::u 1::U::U::[]) K4 bel fun u2 w2 D bel=>?_
 have E2_1:=D.q 1
 replace F1:=D.o L1 F1
 clear D
 refine wp_cond_false (by exact E2_1) ?_
 refine wp_skip ?_
 refine K3 _ _ ?_
 refine gs 2 (Amb S W) fun _ K5=>?_
 refine .mz rfl 0 (V:=pt b1) rfl ?_
 refine .mv rfl 0 ?_
 refine .dk (fun u=>pt b1::U::u 1::u2 0::u2 1::U::u 0::[]) K5 bel fun u3 w3 D bel=>?_
 have E3_1:=D.q 1
 replace F1:=D.o L1 F1
 clear D
 refine wp_ret ?_
 refine ret_ok rfl (by exact results_tmp' rfl (by exact E3_1)) ⟨_,rfl,?_,bel⟩
 exact (VP.at F1 L1)
end Go.Proofs.YtcboejgklgnifaaGreat
namespace Go.Proofs.YtcboejgklgnifaaGreat
open Go.RowKit Rgn
theorem eRat{S:Nat→Prop}{W:World}{v0:Value}(x:Rat)(t0:(RatN x).p S v0 W):Calls Tryz.prog 171 #[v0] W (Ret (RatP x) S W):=by
 rcases t0 with⟨rfl,rfl⟩|t0
 ·exact eRatN
 ·exact eRatR x t0
end Go.Proofs.YtcboejgklgnifaaGreat
namespace Go.Proofs.YtcboejgklgnifaaGreat
open Go.RowKit Rgn Eng
variable {S:Nat→Prop} {W:World}
theorem eMul{v0 v1:Value}(x y:Rat)(t0:(RatN x).p S v0 W)(t1:(RatN y).p S v1 W)(p0:ht x+ht y≤68719476736):Calls Tryz.prog 172 #[v0,v1] W (Ret (RatP (x*y)) S W):=by
 refine Run.goP (S:=S) ((Pack.nil.s spRatN t0).s spRatN t1) Tryz.func172 rfl ?_
 refine Run.cR spRat (fun _ _ _ H=>eRat x (H.f 0)) ?_
 refine Run.cR spRat (fun _ _ _ H=>eRat y (H.f 1)) ?_
 refine Run.cO 0 softRat (fun _ _ _ H=>qMul x y (RatP.blk (H.oz 0)) (anyV (H.f 2)) (anyV (H.f 3)) p0) ?_
 exact Run.rR (fun _ _ _ H=>H.s 0)
theorem eParts{v0:Value}(x:Cx)(t0:(NumP x).p S v0 W):Calls Tryz.prog 127 #[v0] W (Ret (VP.tup (RatP x.re) (RatP x.im)) S W):=by
 refine Run.goP (S:=S) (Pack.nil.s spNum t0) Tryz.func127 rfl ?_
 refine Run.dr ?_
 refine RunD.cR spRat (fun _ _ _ H=>eRat x.re (H.f 0)) ?_
 refine RunD.cR spRat (fun _ _ _ H=>eRat x.im (H.f 1)) ?_
 refine RunD.en ?_
 exact Run.rR (fun _ _ _ H=>⟨_,_,rfl,(H.f 2),(H.f 3)⟩)
theorem eZero{v0:Value}(x:Cx)(t0:(NumP x).p S v0 W):Calls Tryz.prog 124 #[v0] W (RetV (.bool x.zero) W):=by
 refine Run.goP (S:=S) (Pack.nil.s spNum t0) Tryz.func124 rfl ?_
 refine Run.cR spRat (fun _ _ _ H=>eRat x.re (H.f 0)) ?_
 refine Run.cV [.int .i64 x.re.num.sign] kb (fun _ _ _ H=>qSign x.re (H.f 2)) ?_
 refine Run.ic x.re.num.sign 0 (x.re.num.sign == 0) ?_
 refine (Bool.eq_false_or_eq_true (x.re.num.sign == 0)).elim (fun c1=>?_) (fun c1=>?_)
 · refine Run.kn c1 ?_
   refine Run.cR spRat (fun _ _ _ H=>eRat x.im (H.f 1)) ?_
   refine Run.cV [.int .i64 x.im.num.sign] kb (fun _ _ _ H=>qSign x.im (H.f 3)) ?_
   refine Run.ic x.im.num.sign 0 (x.im.num.sign == 0) ?_
   exact Run.rV (zero_T c1)
 · refine Run.kn c1 ?_
   exact Run.rV (zero_F c1)
theorem eAdd{v0 v1:Value}(x y:Cx)(t0:(NumP x).p S v0 W)(t1:(NumP y).p S v1 W)(p0:ht x.re+ht x.im+ht y.re+ht y.im≤17179869184):Calls Tryz.prog 76 #[v0,v1] W (Ret (NumP (x.add y)) S W):=by
 refine Run.goP (S:=S) ((Pack.nil.s spNum t0).s spNum t1) Tryz.func76 rfl ?_
 refine Run.dr ?_
 refine RunD.cR spRat (fun _ _ _ H=>eRat x.re (H.f 0)) ?_
 refine RunD.cR spRat (fun _ _ _ H=>eRat y.re (H.f 2)) ?_
 refine RunD.cO 3 softRat (fun _ _ _ H=>qAdd x.re y.re (RatP.blk (H.oz 3)) (anyV (H.f 4)) (anyV (H.f 5)) (by omega)) ?_
 refine RunD.cR spRat (fun _ _ _ H=>eRat x.im (H.f 1)) ?_
 refine RunD.cR spRat (fun _ _ _ H=>eRat y.im (H.f 3)) ?_
 refine RunD.cO 4 softRat (fun _ _ _ H=>qAdd x.im y.im (RatP.blk (H.oz 4)) (anyV (H.f 7)) (anyV (H.f 8)) (by omega)) ?_
 refine RunD.en ?_
 exact Run.rR (fun _ _ _ H=>NumP.mk (RatP.n (H.s 3)) (RatP.n (H.s 4)))
theorem eSub{v0 v1:Value}(x y:Cx)(t0:(NumP x).p S v0 W)(t1:(NumP y).p S v1 W)(p0:ht x.re+ht x.im+ht y.re+ht y.im≤17179869184):Calls Tryz.prog 173 #[v0,v1] W (Ret (NumP (x.sub y)) S W):=by
 refine Run.goP (S:=S) ((Pack.nil.s spNum t0).s spNum t1) Tryz.func173 rfl ?_
 refine Run.dr ?_
 refine RunD.cR spRat (fun _ _ _ H=>eRat x.re (H.f 0)) ?_
 refine RunD.cR spRat (fun _ _ _ H=>eRat y.re (H.f 2)) ?_
 refine RunD.cO 3 softRat (fun _ _ _ H=>qSub x.re y.re (RatP.blk (H.oz 3)) (anyV (H.f 4)) (anyV (H.f 5)) (by omega)) ?_
 refine RunD.cR spRat (fun _ _ _ H=>eRat x.im (H.f 1)) ?_
 refine RunD.cR spRat (fun _ _ _ H=>eRat y.im (H.f 3)) ?_
 refine RunD.cO 4 softRat (fun _ _ _ H=>qSub x.im y.im (RatP.blk (H.oz 4)) (anyV (H.f 7)) (anyV (H.f 8)) (by omega)) ?_
 refine RunD.en ?_
 exact Run.rR (fun _ _ _ H=>NumP.mk (RatP.n (H.s 3)) (RatP.n (H.s 4)))
theorem eNMul{v0 v1:Value}(x y:Cx)(t0:(NumP x).p S v0 W)(t1:(NumP y).p S v1 W)(p0:ht x.re+ht x.im+ht y.re+ht y.im≤17179869184):Calls Tryz.prog 77 #[v0,v1] W (Ret (NumP (x.mul y)) S W):=by
 have h1:=ht_mul x.re y.re
 have h2:=ht_mul x.im y.im
 have h3:=ht_mul x.re y.im
 have h4:=ht_mul x.im y.re
 refine Run.goP (S:=S) ((Pack.nil.s spNum t0).s spNum t1) Tryz.func77 rfl ?_
 refine Run.dr ?_
 refine RunD.cR spRat (fun _ _ _ H=>eMul x.re y.re (H.f 0) (H.f 2) (by omega)) ?_
 refine RunD.cR spRat (fun _ _ _ H=>eMul x.im y.im (H.f 1) (H.f 3) (by omega)) ?_
 refine RunD.cO 3 softRat (fun _ _ _ H=>qSub (x.re*y.re) (x.im*y.im) (RatP.blk (H.oz 3)) (anyV (H.f 4)) (anyV (H.f 5)) (by omega)) ?_
 refine RunD.cR spRat (fun _ _ _ H=>eMul x.re y.im (H.f 0) (H.f 3) (by omega)) ?_
 refine RunD.cR spRat (fun _ _ _ H=>eMul x.im y.re (H.f 1) (H.f 2) (by omega)) ?_
 refine RunD.cO 4 softRat (fun _ _ _ H=>qAdd (x.re*y.im) (x.im*y.re) (RatP.blk (H.oz 4)) (anyV (H.f 7)) (anyV (H.f 8)) (by omega)) ?_
 refine RunD.en ?_
 exact Run.rR (fun _ _ _ H=>NumP.mk (RatP.n (H.s 3)) (RatP.n (H.s 4)))
theorem eScale{v0 v1:Value}(x:Cx)(r:Rat)(t0:(NumP x).p S v0 W)(t1:(RatN r).p S v1 W)(p0:ht x.re+ht x.im+ht r≤34359738368):Calls Tryz.prog 119 #[v0,v1] W (Ret (NumP (x.scale r)) S W):=by
 refine Run.goP (S:=S) ((Pack.nil.s spNum t0).s spRatN t1) Tryz.func119 rfl ?_
 refine Run.dr ?_
 refine RunD.cR spRat (fun _ _ _ H=>eMul x.re r (H.f 0) (H.f 2) (by omega)) ?_
 refine RunD.cR spRat (fun _ _ _ H=>eMul x.im r (H.f 1) (H.f 2) (by omega)) ?_
 refine RunD.en ?_
 exact Run.rR (fun _ _ _ H=>NumP.mk (RatP.n (H.f 3)) (RatP.n (H.f 4)))
theorem eNorm{v0:Value}(x:Cx)(t0:(NumP x).p S v0 W)(p0:ht x.re+ht x.im≤8589934592):Calls Tryz.prog 120 #[v0] W (Ret (RatP x.norm) S W):=by
 have h1:=ht_mul x.re x.re
 have h2:=ht_mul x.im x.im
 refine Run.goP (S:=S) (Pack.nil.s spNum t0) Tryz.func120 rfl ?_
 refine Run.dr ?_
 refine RunD.cR spRat (fun _ _ _ H=>eMul x.re x.re (H.f 0) (H.f 0) (by omega)) ?_
 refine RunD.cR spRat (fun _ _ _ H=>eMul x.im x.im (H.f 1) (H.f 1) (by omega)) ?_
 refine RunD.cO 1 softRat (fun _ _ _ H=>qAdd (x.re*x.re) (x.im*x.im) (RatP.blk (H.oz 1)) (anyV (H.f 2)) (anyV (H.f 3)) (by omega)) ?_
 refine RunD.en ?_
 exact Run.rR (fun _ _ _ H=>H.s 1)
theorem eConj{v0:Value}(x:Cx)(t0:(NumP x).p S v0 W)(p0:ht x.re+ht x.im≤8589934592):Calls Tryz.prog 126 #[v0] W (Ret (NumP x.conj) S W):=by
 refine Run.goP (S:=S) (Pack.nil.s spNum t0) Tryz.func126 rfl ?_
 refine Run.dr ?_
 refine RunD.cR spRat (fun _ _ _ H=>eRat x.re (H.f 0)) ?_
 refine RunD.cR spRat (fun _ _ _ H=>eRat x.im (H.f 1)) ?_
 refine RunD.cO 2 softRat (fun _ _ _ H=>qNeg x.im (RatP.blk (H.oz 2)) (anyV (H.f 3)) (by omega)) ?_
 refine RunD.en ?_
 exact Run.rR (fun _ _ _ H=>NumP.mk (RatP.n (H.f 2)) (RatP.n (H.s 2)))
theorem eInt(m n:Int)(p0:-9223372036854775808≤m)(p1:m≤9223372036854775807)(p2:-9223372036854775808≤n)(p3:n≤9223372036854775807):Calls Tryz.prog 185 #[.int .i64 m,.int .i64 n] W (Ret (NumP (Cx.ofInt m n)) S W):=by
 refine Run.goP (S:=S) ((Pack.nil.k (.int .i64 m) [.int .i64 m] kb).k (.int .i64 n) [.int .i64 n] kb) Tryz.func185 rfl ?_
 refine Run.cR spRat (fun _ _ _ H=>qNewRat m 1 p0 p1 (by decide) (by decide) (by decide)) ?_
 refine Run.cR spRat (fun _ _ _ H=>qNewRat n 1 p2 p3 (by decide) (by decide) (by decide)) ?_
 exact Run.rR (fun _ _ _ H=>VPe (φ:=NumP) (num_int m n) (NumP.mk (RatP.n (H.f 0)) (RatP.n (H.f 1))))
end Go.Proofs.YtcboejgklgnifaaGreat
namespace Go.Proofs.YtcboejgklgnifaaGreat
open Go.RowKit Rgn
variable {S:Nat→Prop} {W:World}
theorem eFrac{v0:Value}(x:Rat)(t0:(RatN x).p S v0 W)(p0:ht x≤68719476736):Calls Tryz.prog 158 #[v0] W (RetV (.tuple #[.agg #[.bool (fcut x).a.n,.string (fcut x).a.s,.bool (fcut x).b.n,.string (fcut x).b.s],.int .i64 (ferr x)]) W):=by
 have F_v0:(RatN x).p (Amb S W) v0 W:=(RatN x).mono (fun _ _ h=>.inl h) t0
 have n0:=hi_num x
 have n2:=hi_den x
 have bel:=b0 W
 go_enter Tryz.func158,Tryz.ntmps158
 refine gs 2 (Amb S W) fun _ K1=>?_
 refine .al rfl zF ?_
 refine .mc rfl ?_
 refine .dk (fun u=>v0::U::u 0::u 1::us 29) K1 bel fun u1 w1 D bel=>?_
 obtain⟨b2,E1_0,A2,B2⟩:=D.nw 0
 have E1_1:=D.q 1
 replace F_v0:=D.gr (RatN x) F_v0
 clear D
 refine wp_seq_k fun _ K3=>?_
 refine wp_region_list ?_
 refine wpT_val rfl (ex_move rfl) ?_
 refine wpT_callR (args:=#[v0]) (φ:=(RatP x)) (S:=Amb S W) rfl (ex_call rfl rfl Tryz.func171 (by kernel_rfl) (by kernel_rfl) (by simp only [List.map_toArray,List.map_cons,List.map_nil];rfl)) (eRat (x:=x) F_v0 ) fun vw4 w4 fw4 ow4=>?_
 obtain⟨b5,rfl,L5,F5⟩:=RatP.elim fw4
 replace L5:Amb S W b5:=L5.elim id (fun h=>.inr (Nat.le_trans bel.size h))
 replace B2:=(ow4.block b2 (lt_of B2)).trans B2
 replace F_v0:=(RatN x).grow (Rgn.Below.growS ow4 (Nat.le_refl _) _) F_v0
 replace bel:=bel.trans (ow4.mono bel.size)
 refine wpT_val rfl (ex_assign rfl) ?_
 refine wpList_nil ?_
 show _
 refine K3 _ _ ?_
 refine gs 8 (Amb S W) fun _ K6=>?_
 refine .mz rfl 0 (V:=pt b5) rfl ?_
 refine .cR rfl [] Tryz.func198 (fun H=>⟨_,ar1 (H.g 8 0),qNum _ (H.was _ [] (VP.at F5 L5)) (by omega)⟩) ?_
 refine .cR rfl [1] Tryz.func219 (fun H=>⟨_,ar1 (H.r 9 1),bBytes _ (IntO.p (SV.sub [1] (H.a 1 rfl) rfl)) (by omega)⟩) ?_
 refine .mz rfl 0 (V:=pt b5) rfl ?_
 refine .cR rfl [] Tryz.func199 (fun H=>⟨_,ar1 (H.g 11 3),qDenom _ (H.was _ [] (VP.at F5 L5)) (by omega)⟩) ?_
 refine .cR rfl [4] Tryz.func219 (fun H=>⟨_,ar1 (H.r 12 4),bBytes _ (IntO.p (SV.sub [4] (H.a 4 rfl) rfl)) (by omega)⟩) ?_
 refine .mn rfl 2 [1,2] ?_
 refine .mn rfl 5 [4,5] ?_
 refine .dk (fun u=>pt b5::U::u1 0::u1 1::u 6::u 7::v0::pt b5::sq u 0 6 (us 19)) K6 bel fun u3 w3 D bel=>?_
 obtain⟨x7,E3_6,F_x7⟩:∃ x_,(u3 6).v=x_∧(BytP x.num.natAbs).p (Amb S W) x_ w3:=⟨_,rfl,D.rr 6⟩
 obtain⟨x8,E3_7,F_x8⟩:∃ x_,(u3 7).v=x_∧(BytP ((x.den:Int).natAbs)).p (Amb S W) x_ w3:=⟨_,rfl,D.rr 7⟩
 replace B2:=D.k B2
 replace F5:=D.o L5 F5
 clear D
 refine wp_seq_k fun _ K9=>?_
 rcases Bool.eq_false_or_eq_true (decide (1024<(((bS x.num.natAbs).size:Nat):Int))) with c11|c11
 ·
  have dc11:=of_decide_eq_true c11
  refine gs 8 (Amb S W) fun _ K10=>?_
  refine .mz rfl 4 E3_6 ?_
  refine .e rfl (V:=.int .i64 (((bS x.num.natAbs).size:Nat):Int)) (fun H=>by have e_:=(H.g 14 0);obtain⟨_,_,_,_,_,hv_,_⟩:=(show Byts _ _ _ from (VP.any _ (H.was _ [] F_x7)));rw [hv_] at e_;rw [bS_len];clear H;go_simp) ?_
  refine .e rfl (V:=.bool true) (fun H=>x_cm (H.g 15 1) (H.c _) c11) ?_
  refine .mv rfl 2 ?_
  refine .sk rfl 3 ?_
  refine .sk rfl 3 ?_
  refine .sk rfl 3 ?_
  refine .e rfl (fun H=>x_pkT (H.g 17 3) (H.c _)) ?_
  refine .dk (fun u=>pt b5::U::u1 0::u1 1::u3 6::u3 7::v0::pt b5::sq u3 0 6 (sq u 0 8 (us 11))) K10 bel fun u4 w4 D bel=>?_
  have E4_7:=D.q 7
  replace B2:=D.k B2
  replace F5:=D.o L5 F5
  replace F_x7:=D.gr (BytP x.num.natAbs) F_x7
  replace F_x8:=D.gr (BytP ((x.den:Int).natAbs)) F_x8
  clear D
  refine wp_cond_true (by exact E4_7) ?_
  refine gs1 3 (Amb S W) 1 B2 fun _ K12=>?_
  refine .e rfl (V:=.agg zF) (fun H=>by clear H;go_simp) ?_
  refine .s1 rfl B2 (fun H=>⟨H.z 2 E1_0,H.g 22 0⟩) ?_
  refine .mc rfl ?_
  refine .d1 (fun u=>pt b5::U::u1 0::u 2::u3 6::u3 7::v0::pt b5::sq u3 0 6 (sq u4 0 8 (u 0::us 10))) K12 bel A2 fun u5 w5 D bel=>?_
  have E5_2:=D.q 2
  replace B2:=D.ol 1
  clear D
  refine wp_ret ?_
  refine ret_ok rfl (by exact results_mix rfl (by exact E1_0) B2 Tryz.underlying25 rfl (by kernel_rfl) (by exact E5_2)) (RetV.mk ?_ bel)
  exact congrArg Ending.returned (fcut_no (fcut_2 c11))
 ·
  have dc11:=of_decide_eq_false c11
  refine gs 8 (Amb S W) fun _ K10=>?_
  refine .mz rfl 4 E3_6 ?_
  refine .e rfl (V:=.int .i64 (((bS x.num.natAbs).size:Nat):Int)) (fun H=>by have e_:=(H.g 14 0);obtain⟨_,_,_,_,_,hv_,_⟩:=(show Byts _ _ _ from (VP.any _ (H.was _ [] F_x7)));rw [hv_] at e_;rw [bS_len];clear H;go_simp) ?_
  refine .e rfl (V:=.bool false) (fun H=>x_cm (H.g 15 1) (H.c _) c11) ?_
  refine .mv rfl 2 ?_
  refine .mz rfl 5 E3_7 ?_ (hg:=gq 3 rfl)
  refine .e rfl (V:=.int .i64 (((bS ((x.den:Int).natAbs)).size:Nat):Int)) (fun H=>by have e_:=(H.g 18 4);obtain⟨_,_,_,_,_,hv_,_⟩:=(show Byts _ _ _ from (VP.any _ (H.was _ [] F_x8)));rw [hv_] at e_;rw [bS_len];clear H;go_simp) ?_ (hg:=gq 3 rfl)
  refine .e rfl (V:=.bool (decide (1024<(((bS ((x.den:Int).natAbs)).size:Nat):Int)))) (fun H=>x_cmp (H.g 19 5) (H.c _)) ?_ (hg:=gq 3 rfl)
  refine .e rfl (fun H=>x_pkF (H.g 17 3) (H.g 20 6)) ?_
  refine .dk (fun u=>pt b5::U::u1 0::u1 1::u3 6::u3 7::v0::pt b5::sq u3 0 6 (sq u 0 8 (us 11))) K10 bel fun u4 w4 D bel=>?_
  have E4_7:=D.q 7
  replace B2:=D.k B2
  replace F5:=D.o L5 F5
  replace F_x7:=D.gr (BytP x.num.natAbs) F_x7
  replace F_x8:=D.gr (BytP ((x.den:Int).natAbs)) F_x8
  clear D
  rcases Bool.eq_false_or_eq_true (decide (1024<(((bS ((x.den:Int).natAbs)).size:Nat):Int))) with c13|c13
  ·
   refine wp_cond_true ((E4_7).trans (congrArg Value.bool c13)) ?_
   have dc13:=of_decide_eq_true c13
   refine gs1 3 (Amb S W) 1 B2 fun _ K14=>?_
   refine .e rfl (V:=.agg zF) (fun H=>by clear H;go_simp) ?_
   refine .s1 rfl B2 (fun H=>⟨H.z 2 E1_0,H.g 22 0⟩) ?_
   refine .mc rfl ?_
   refine .d1 (fun u=>pt b5::U::u1 0::u 2::u3 6::u3 7::v0::pt b5::sq u3 0 6 (sq u4 0 8 (u 0::us 10))) K14 bel A2 fun u5 w5 D bel=>?_
   have E5_2:=D.q 2
   replace B2:=D.ol 1
   clear D
   refine wp_ret ?_
   refine ret_ok rfl (by exact results_mix rfl (by exact E1_0) B2 Tryz.underlying25 rfl (by kernel_rfl) (by exact E5_2)) (RetV.mk ?_ bel)
   exact congrArg Ending.returned (fcut_no (fcut_3 c13))
  ·
   refine wp_cond_false ((E4_7).trans (congrArg Value.bool c13)) ?_
   have dc13:=of_decide_eq_false c13
   refine wp_skip ?_
   refine K9 _ _ ?_
   refine gd1 12 (Amb S W) 10 B2 fun _ K15=>?_
   refine .mz rfl 0 (V:=pt b5) rfl ?_
   refine .cK rfl Tryz.func72 (fun H=>⟨_,ar1 (H.g 23 0),qSign _ (VP.any _ (H.was _ [] (VP.at F5 L5)))⟩) ?_
   refine .e rfl (V:=.bool (decide (x.num.sign<0))) (fun H=>x_cmp (H.g 24 1) (H.c _)) ?_
   refine .mz rfl 4 E3_6 ?_
   refine Go2.eq (i:=4) rfl (G0 rfl) (V:=.string (bS x.num.natAbs)) (by intro u μ ρ H;exact ex_conv rfl (H.g 26 3) (Byts.str (VP.any _ (H.was _ [] F_x7)))) ?_
   refine .e rfl (V:=.agg #[.bool (decide (x.num.sign<0)),.string (bS x.num.natAbs)]) (fun H=>by have e25:=H.g 25 2;have e27:=H.g 27 4;clear H;go_simp) ?_
   refine .mz rfl 5 E3_7 ?_
   refine Go2.eq (i:=7) rfl (G0 rfl) (V:=.string (bS ((x.den:Int).natAbs))) (by intro u μ ρ H;exact ex_conv rfl (H.g 29 6) (Byts.str (VP.any _ (H.was _ [] F_x8)))) ?_
   refine .e rfl (V:=.agg #[.bool false,.string (bS ((x.den:Int).natAbs))]) (fun H=>by have e30:=H.g 30 7;clear H;go_simp) ?_
   refine .e rfl (V:=.agg #[.bool (decide (x.num.sign<0)),.string (bS x.num.natAbs),.bool false,.string (bS ((x.den:Int).natAbs))]) (fun H=>by have e28:=H.g 28 5;have e31:=H.g 31 8;clear H;go_simp) ?_
   refine .s1 rfl B2 (fun H=>⟨H.z 2 E1_0,H.g 32 9⟩) ?_
   refine .mc rfl ?_
   refine .d1 (fun u=>pt b5::U::u1 0::u 11::u3 6::u3 7::v0::pt b5::sq u3 0 6 (sq u4 0 8 (U::sq u 0 10 []))) K15 bel A2 fun u6 w6 D bel=>?_
   have E6_11:=D.q 11
   replace B2:=D.ol 10
   clear D
   refine wp_ret ?_
   refine ret_ok rfl (by exact results_mix rfl (by exact E1_0) B2 Tryz.underlying25 rfl (by kernel_rfl) (by exact E6_11)) (RetV.mk ?_ bel)
   exact congrArg Ending.returned (ecut_yes (fcut_1 c11 c13))
theorem eWhole(x:Int)(p0:hi x≤1099511627000):Calls Tryz.prog 196 #[wV x] W (Ret (IntO x) S W):=by
 have q0:=hi_bl x
 have q1:=hi_nat x.natAbs
 have bel:=b0 W
 go_enter Tryz.func196,Tryz.ntmps196
 refine gs 2 (Amb S W) fun _ K1=>?_
 refine .bx rfl (fun H=>H.v 0 (wV x)) ?_
 refine .mc rfl ?_
 refine .dk (fun u=>wV x::u 0::u 1::us 12) K1 bel fun u1 w1 D bel=>?_
 obtain⟨b2,E1_0,A2,B2⟩:=D.nw 0
 have E1_1:=D.q 1
 clear D
 refine gs 6 (Amb S W) fun _ K3=>?_
 refine .al rfl zI ?_
 refine .fz rfl 1 1 E1_0 ?_
 refine .lc rfl 1 B2 ?_ (V:=.string (bS x.natAbs))
 refine Go2.grow (i:=3) rfl (G0 rfl) (.val 3 [] (BytP x.natAbs)) (fun u μ ρ H=>by have e6:=H.g 6 2;obtain⟨v_,w_,hr_,hm_,hb_⟩:=conv_byt x.natAbs μ (by omega);exact⟨v_,w_,ex_conv rfl e6 hr_,SP.bytVal hm_,hb_⟩) ?_
 refine .cO rfl 0 Tryz.func233 (fun H h0 hz=>⟨_,ar2 (H.p 4 0 h0) (H.r 7 3),bSetBytes (n:=_) (IntBlk.of hz) (SV.any (H.a 3 rfl)) (by omega)⟩) ?_
 refine .mo rfl 4 ?_
 refine .dk (fun u=>wV x::u1 0::u1 1::u 5::sq u 0 5 (us 6)) K3 bel fun u2 w2 D bel=>?_
 obtain⟨b4,E2_5,A4,F4⟩:=D.ow 5
 have N2_4:=D.n1 0 (lt_of B2) ((D.a 5 rfl).1.symm.trans E2_5)
 replace B2:=D.k B2
 have L4:Amb S W b4:=.inr A4
 clear D
 refine wp_seq_k fun _ K5=>?_
 refine gs 2 (Amb S W) fun _ K6=>?_
 refine .fz rfl 1 0 E1_0 ?_
 refine .lc rfl 0 B2 ?_ (V:=.bool (decide (x<0)))
 refine .dk (fun u=>wV x::u1 0::u1 1::u2 5::sq u2 0 5 (u 0::u 1::us 4)) K6 bel fun u3 w3 D bel=>?_
 have E3_1:=D.q 1
 replace F4:=D.o L4 F4
 clear D
 rcases Bool.eq_false_or_eq_true (decide (x<0)) with c7|c7
 ·
  refine wp_cond_true ((E3_1).trans (congrArg Value.bool c7)) ?_
  have dc7:=of_decide_eq_true c7
  refine go2_seqT 2 1 rfl (Amb S W) [] [] (Olds.nil _) (by kernel_rfl) ?_
  refine .mz rfl 3 E2_5 ?_
  refine .mz rfl 3 E2_5 ?_
  refine .dT (fun u=>wV x::u1 0::u1 1::u2 5::sq u2 0 5 (u3 0::u3 1::sq u 0 3 (U::[]))) bel.size _ rfl fun u4 w4 D=>?_
  have E4_0:=D.q 0
  have E4_1:=D.q 1
  replace F4:=D.o L4 F4
  replace bel:=D.d.base.bel0 bel bel.size
  clear D
  refine wpT_callO (args:=#[pt b4,pt b4]) rfl (ex_call rfl rfl Tryz.func205 (by kernel_rfl) (by kernel_rfl) (by simp only [List.map_toArray,List.map_cons,List.map_nil];show #[(u4 0).v,(u4 1).v]=#[pt b4,pt b4];rw [E4_0,E4_1])) (bNeg (z:=b4) (x:=(x.natAbs:Int)) (IntO.blk F4) (IntO.p (VP.any _ F4)) (by omega)) fun w8 fw8 ow8=>?_
  have sw8:Soft w4 b4∨Local w4 b4:=.inl (IntO.soft F4)
  have F4:=fw8
  have L4:Amb S W b4:=.inr A4
  replace bel:=bel.trans (only_below' ow8 A4 bel.size)
  refine wpList_nil ?_
  show _
  refine K5 _ _ ?_
  refine gs 2 (Amb S W) fun _ K9=>?_
  refine .mz rfl 3 E2_5 ?_
  refine .mv rfl 0 ?_
  refine .dk (fun u=>wV x::u1 0::u 1::u2 5::sq u2 0 5 (u3 0::u3 1::u4 0::u4 1::.pointer (some ⟨b4,0,none⟩)::u 0::[])) K9 bel fun u5 w5 D bel=>?_
  have E5_1:=D.q 1
  replace F4:=D.o L4 F4
  clear D
  refine wp_ret ?_
  refine ret_ok rfl (by exact results_tmp' rfl (by exact E5_1)) ⟨_,rfl,?_,bel⟩
  exact into_eq (num_n dc7) (VP.at F4 L4)
 ·
  refine wp_cond_false ((E3_1).trans (congrArg Value.bool c7)) ?_
  have dc7:=of_decide_eq_false c7
  refine wp_skip ?_
  refine K5 _ _ ?_
  refine gs 2 (Amb S W) fun _ K10=>?_
  refine .mz rfl 3 E2_5 ?_
  refine .mv rfl 0 ?_
  refine .dk (fun u=>wV x::u1 0::u 1::u2 5::sq u2 0 5 (u3 0::u3 1::U::U::U::u 0::[])) K10 bel fun u6 w6 D bel=>?_
  have E6_1:=D.q 1
  replace F4:=D.o L4 F4
  clear D
  refine wp_ret ?_
  refine ret_ok rfl (by exact results_tmp' rfl (by exact E6_1)) ⟨_,rfl,?_,bel⟩
  exact into_eq (num_p dc7) (VP.at F4 L4)
end Go.Proofs.YtcboejgklgnifaaGreat
namespace Go.Proofs.YtcboejgklgnifaaGreat
open Go.RowKit Rgn Eng
variable {S:Nat→Prop} {W:World}
theorem eDiv{v0 v1:Value}(x y:Cx)(t0:(NumP x).p S v0 W)(t1:(NumP y).p S v1 W)(p0:ht x.re+ht x.im+ht y.re+ht y.im≤1073741824)(p1:y.norm≠0):Calls Tryz.prog 190 #[v0,v1] W (Ret (NumP (x.div y)) S W):=by
 have h1:=hc_conj y
 have h2:=hc_mul x y.conj
 have h3:=hc_norm y
 have h4:=ht_inv y.norm
 refine Run.goP (S:=S) ((Pack.nil.s spNum t0).s spNum t1) Tryz.func190 rfl ?_
 refine Run.dr ?_
 refine RunD.cR spNum (fun _ _ _ H=>eConj y (NumP.mk (H.f 2) (H.f 3)) (by first|omega|exact p1)) ?_
 refine RunD.cR spNum (fun _ _ _ H=>eNMul x y.conj (NumP.mk (H.f 0) (H.f 1)) (NumP.mk (H.f 4) (H.f 5)) (by first|omega|exact p1)) ?_
 refine RunD.cR spRat (fun _ _ _ H=>eNorm y (NumP.mk (H.f 2) (H.f 3)) (by first|omega|exact p1)) ?_
 refine RunD.cO 3 softRat (fun _ _ _ H=>qInv y.norm (RatP.blk (H.oz 3)) (anyV (H.f 8)) (by first|omega|exact p1) p1) ?_
 refine RunD.cRs [3] spNum (fun _ _ _ H=>eScale (x.mul y.conj) (y.norm⁻¹) (NumP.mk (H.f 6) (H.f 7)) (RatP.n (H.s 3)) (by first|omega|exact p1)) ?_
 refine RunD.en ?_
 exact Run.rR (fun _ _ _ H=>VPe (φ:=NumP) (cx_over x y) (NumP.mk (H.f 10) (H.f 11)))
theorem eTold{v0:Value}(x:Cx)(t0:(NumP x).p S v0 W)(p0:ht x.re+ht x.im≤68719476736):Calls Tryz.prog 165 #[v0] W (RetV (.tuple #[rgV (gcut x),.int .i64 (gerr x)]) W):=by
 refine Run.goP (S:=S) (Pack.nil.s spNum t0) Tryz.func165 rfl ?_
 refine Run.cV ((rfC (fcut x.re)).toList++[.int .i64 (ferr x.re)]) (.tup [.agg (ks 0 4),.o (.k 4)]) (fun _ _ _ H=>eFrac x.re (H.f 0) (by omega)) ?_
 refine Run.cV ((rfC (fcut x.im)).toList++[.int .i64 (ferr x.im)]) (.tup [.agg (ks 0 4),.o (.k 4)]) (fun _ _ _ H=>eFrac x.im (H.f 1) (by omega)) ?_
 refine Run.ic (ferr x.re) 0 ((ferr x.re) != 0) ?_
 refine (Bool.eq_false_or_eq_true ((ferr x.re) != 0)).elim (fun c1=>?_) (fun c1=>?_)
 · refine Run.kn c1 ?_
   exact Run.rV (gcut_no (.inl c1))
 · refine Run.kn c1 ?_
   refine Run.ic (ferr x.im) 0 ((ferr x.im) != 0) ?_
   refine (Bool.eq_false_or_eq_true ((ferr x.im) != 0)).elim (fun c2=>?_) (fun c2=>?_)
   · refine Run.kn c2 ?_
     exact Run.rV (gcut_no (.inr c2))
   · refine Run.kn c2 ?_
     exact Run.rV (gcut_yes c1 c2)
theorem eRatOk(x:Rat)(p0:fits (rf x)=true):Calls Tryz.prog 117 #[fV x] W (Ret (RatP x) S W):=by
 have n0:=hi_num x
 have n2:=hi_den x
 have f0:=efits_le p0
 have f1:ht (Rat.divInt x.num (x.den:Int))≤8200:=by rw [fr_self];exact f0
 have f2:=hi_num (Rat.divInt x.num (x.den:Int))
 have f3:=hi_den (Rat.divInt x.num (x.den:Int))
 have f4:=fits_two p0
 refine Run.goP (S:=S) (Pack.nil.k (fV x) (fC x).toList (.s (.agg (ks 0 4)))) Tryz.func117 rfl ?_
 refine Run.cV [.bool (wformed (rw x.num))] kb (fun _ _ _ H=>eFormed (rw x.num)) ?_
 refine Run.kn (wformed_rw x.num) ?_
 refine Run.cV [.bool (wformed (rw (x.den:Int)))] kb (fun _ _ _ H=>eFormed (rw (x.den:Int))) ?_
 refine Run.kn (wformed_rw (x.den:Int)) ?_
 refine Run.kn (den_nn x) ?_
 refine Run.bi (op:=.eql) (t:=9) (a:=.string (bS (x.den:Int).natAbs)) (c:=.string ⟨#[]⟩) [] (cb false) (fun w o ρ u v t' ho hx hy=>ex_seq Tryz.underlying9 _ (den_na x) ho hx hy) ?_
 refine Run.sl (bS x.num.natAbs) 9 Tryz.underlying9 ?_
 refine Run.ik .gtr (((bS x.num.natAbs).size:Nat):Int) 1024 false (congrArg some (decide_eq_false (show ¬ (1024:Int)<(((bS x.num.natAbs).size:Nat):Int) by have:=f4.1;omega))) ?_
 refine Run.sl (bS (x.den:Int).natAbs) 9 Tryz.underlying9 ?_
 refine Run.ik .gtr (((bS (x.den:Int).natAbs).size:Nat):Int) 1024 false (congrArg some (decide_eq_false (show ¬ (1024:Int)<(((bS (x.den:Int).natAbs).size:Nat):Int) by have:=f4.2;omega))) ?_
 refine Run.dr ?_
 refine RunD.cR spInto (fun _ _ _ H=>eWhole x.num (by omega)) ?_
 refine RunD.cR spInto (fun _ _ _ H=>eWhole (x.den:Int) (by omega)) ?_
 refine RunD.en ?_
 refine Run.cO 1 softRat (fun _ _ _ H=>qSetFrac x.num (x.den:Int) (RatP.blk (H.oz 1)) (IntO.p (anyV (H.f 0))) (IntO.p (anyV (H.f 1))) (by omega) (den_ne x)) ?_
 refine Run.se 1 ?_
 refine Run.cR spInto (fun _ _ _ H=>qNum (Rat.divInt x.num (x.den:Int)) (H.s 1) (by omega)) ?_
 refine Run.cV [.int .i64 (icmp (Rat.divInt x.num (x.den:Int)).num x.num)] kb (fun _ _ _ H=>bCmp (Rat.divInt x.num (x.den:Int)).num x.num (IntO.p (H.f 3)) (IntO.p (H.f 0)) (by omega)) ?_
 refine Run.ik .neq (icmp (Rat.divInt x.num (x.den:Int)).num x.num) 0 false (congrArg some (back_num x)) ?_
 refine Run.cR spInto (fun _ _ _ H=>qDenom (Rat.divInt x.num (x.den:Int)) (H.s 1) (by omega)) ?_
 refine Run.cV [.int .i64 (icmp ((Rat.divInt x.num (x.den:Int)).den:Int) (x.den:Int))] kb (fun _ _ _ H=>bCmp ((Rat.divInt x.num (x.den:Int)).den:Int) (x.den:Int) (IntO.p (H.f 4)) (IntO.p (H.f 1)) (by omega)) ?_
 refine Run.ik .neq (icmp ((Rat.divInt x.num (x.den:Int)).den:Int) (x.den:Int)) 0 false (congrArg some (back_den x)) ?_
 have e:RatP x=RatP (Rat.divInt x.num (x.den:Int)):=by rw [fr_self]
 rw [e]
 exact Run.rR (fun _ _ _ H=>H.s 1)
end Go.Proofs.YtcboejgklgnifaaGreat
namespace Go.Proofs.YtcboejgklgnifaaGreat
open Go.RowKit Rgn
variable {S:Nat→Prop} {W:World}
theorem eOf(x:Cx)(p0:gfits (rg x)=true):Calls Tryz.prog 116 #[gV x] W (Ret (VP.tup (NumP x) (VP.is (.bool true))) S W):=by
 have bel:=b0 W
 go_enter Tryz.func116,Tryz.ntmps116
 refine gs 3 (Amb S W) fun _ K1=>?_
 refine .bx rfl (fun H=>H.v 0 (gV x)) ?_
 refine .al rfl (#[.pointer none,.pointer none]) ?_
 refine .mc rfl ?_
 refine .dk (fun u=>gV x::sq u 0 3 (us 17)) K1 bel fun u1 w1 D bel=>?_
 obtain⟨b2,E1_0,A2,B2⟩:=D.nw 0
 obtain⟨b3,E1_1,A3,B3⟩:=D.nw 1
 have E1_2:=D.q 2
 have N2_3:=D.n2 0 1 E1_0 E1_1
 clear D
 refine gd 8 (Amb S W) fun _ K4=>?_
 refine .fz rfl 1 0 E1_0 ?_
 refine .lp rfl 0 (fC x.re) B2 ?_
 refine .cR rfl [] Tryz.func117 (fun H=>⟨_,ar1 (H.g 7 1),eRatOk _ (by first|exact (and_tt p0).1|exact (and_tt p0).2)⟩) ?_
 refine .fz rfl 1 4 E1_0 ?_
 refine .lp rfl 3 (fC x.im) B2 ?_
 refine .cR rfl [] Tryz.func117 (fun H=>⟨_,ar1 (H.g 10 4),eRatOk _ (by first|exact (and_tt p0).1|exact (and_tt p0).2)⟩) ?_
 refine .mn rfl 2 [2] ?_
 refine .mn rfl 5 [5] ?_
 refine .dk (fun u=>gV x::sq u1 0 3 (u 6::u 7::sq u 0 6 (us 9))) K4 bel fun u2 w2 D bel=>?_
 obtain⟨b5,E2_6,L5,F5⟩:=RatP.elim (D.rr 6)
 obtain⟨b6,E2_7,L6,F6⟩:=RatP.elim (D.rr 7)
 replace B3:=D.k B3
 clear D
 refine gs1 11 (Amb S W) 9 B3 fun _ K7=>?_
 refine .mz rfl 4 E2_6 ?_
 refine .mz rfl 5 E2_7 ?_
 refine .e rfl (V:=.agg #[pt b5,pt b6]) (fun H=>by have e12:=H.g 12 0;have e13:=H.g 13 1;clear H;go_simp) ?_
 refine .mz rfl 4 E2_6 ?_
 refine .e rfl (V:=.bool true) (fun H=>x_pnN (H.g 15 3) (H.c _)) ?_
 refine .mv rfl 4 ?_
 refine .mz rfl 5 E2_7 ?_ (hg:=gq 5 rfl)
 refine .e rfl (V:=.bool true) (fun H=>x_pnN (H.g 18 6) (H.c _)) ?_ (hg:=gq 5 rfl)
 refine .e rfl (fun H=>x_pkT (H.g 17 5) (H.g 19 7)) ?_
 refine .s1 rfl B3 (fun H=>⟨H.z 2 E1_1,H.g 14 2⟩) ?_
 refine .mv rfl 8 ?_
 refine .d1 (fun u=>gV x::u1 0::u1 1::u 10::u2 6::u2 7::sq u2 0 6 (sq u 0 9 [])) K7 bel A3 fun u3 w3 D bel=>?_
 have E3_10:=D.q 10
 replace B3:=D.ol 9
 replace F5:=D.o L5 F5
 replace F6:=D.o L6 F6
 clear D
 refine wp_ret ?_
 refine ret_ok rfl (by exact results_mix rfl (by exact E1_1) B3 Tryz.underlying131 rfl (by kernel_rfl) (by exact E3_10)) ⟨_,rfl,?_,bel⟩
 exact⟨_,_,rfl,(NumP.mk (RatP.n (VP.at F5 L5)) (RatP.n (VP.at F6 L6))),rfl⟩
end Go.Proofs.YtcboejgklgnifaaGreat
namespace Go.Proofs.YtcboejgklgnifaaGreat
open Go.RowKit Rgn Eng
variable {S:Nat→Prop} {W:World}
theorem eReal{v0:Value}(x:Rat)(t0:(RatP x).p S v0 W):Calls Tryz.prog 75 #[v0] W (Ret (NumP ⟨x,0⟩) S W):=by
 refine Run.goP (S:=S) (Pack.nil.s spRat t0) Tryz.func75 rfl ?_
 exact Run.rR (fun _ _ _ H=>NumP.mk (RatP.n (H.f 0)) (RatN.nil rfl))
theorem eTwice{v0:Value}(x:Rat)(t0:(RatP x).p S v0 W)(p0:ht x≤34359738368):Calls Tryz.prog 214 #[v0] W (Ret (RatP (x+x)) S W):=by
 refine Run.goP (S:=S) (Pack.nil.s spRat t0) Tryz.func214 rfl ?_
 refine Run.cO 0 softRat (fun _ _ _ H=>qAdd x x (RatP.blk (H.oz 0)) (anyV (H.f 0)) (anyV (H.f 0)) (by first|omega|(dsimp only at *;omega))) ?_
 exact Run.rR (fun _ _ _ H=>H.s 0)
theorem eSum2{v0:Value}(x y:Rat)(t0:(RatsP [x,y]).p S v0 W)(p0:ht x+ht y≤34359738000):Calls Tryz.prog 166 #[v0] W (Ret (RatP ((0:Rat)+x+y)) Z0 W):=by
 have z0:=ht_zero
 have h1:=ht_add 0 x
 obtain⟨b0,ys0,rfl,B0,F0⟩:=ratsCells2 t0
 refine Run.goP (S:=S) (Pack.nil.bv B0 (some 2) 2 F0) Tryz.func166 rfl ?_
 refine Run.cO 1 softRat (fun _ _ _ H=>qAdd (0:Rat) x (RatP.blk (H.oz 1)) (anyV (H.oz 1)) (anyV (H.f 0)) (by first|omega|(dsimp only at *;omega))) ?_
 refine Run.cO 1 softRat (fun _ _ _ H=>qAdd ((0:Rat)+x) y (RatP.blk (q:=(0:Rat)+x) (H.o 1)) (anyV (H.o 1)) (anyV (H.f 1)) (by first|omega|(dsimp only at *;omega))) ?_
 exact Run.rN (φ:=RatP ((0:Rat)+x+y)) 1 (fun _ _ _ H=>⟨H.ow 1,H.o 1⟩)
theorem eSum3{v0:Value}(x y z:Rat)(t0:(RatsP [x,y,z]).p S v0 W)(p0:ht x+ht y+ht z≤34359738000):Calls Tryz.prog 166 #[v0] W (Ret (RatP ((0:Rat)+x+y+z)) Z0 W):=by
 have z0:=ht_zero
 have h1:=ht_add 0 x
 have h2:=ht_add (0+x) y
 obtain⟨b0,ys0,rfl,B0,F0⟩:=ratsCells3 t0
 refine Run.goP (S:=S) (Pack.nil.bv B0 (some 3) 3 F0) Tryz.func166 rfl ?_
 refine Run.cO 1 softRat (fun _ _ _ H=>qAdd (0:Rat) x (RatP.blk (H.oz 1)) (anyV (H.oz 1)) (anyV (H.f 0)) (by first|omega|(dsimp only at *;omega))) ?_
 refine Run.cO 1 softRat (fun _ _ _ H=>qAdd ((0:Rat)+x) y (RatP.blk (q:=(0:Rat)+x) (H.o 1)) (anyV (H.o 1)) (anyV (H.f 1)) (by first|omega|(dsimp only at *;omega))) ?_
 refine Run.cO 1 softRat (fun _ _ _ H=>qAdd (((0:Rat)+x)+y) z (RatP.blk (q:=((0:Rat)+x)+y) (H.o 1)) (anyV (H.o 1)) (anyV (H.f 2)) (by first|omega|(dsimp only at *;omega))) ?_
 exact Run.rN (φ:=RatP ((0:Rat)+x+y+z)) 1 (fun _ _ _ H=>⟨H.ow 1,H.o 1⟩)
theorem rgPow{v0:Value}(c:Ci)(t0:(RingP c).p S v0 W)(p0:ht c.a+ht c.b.re+ht c.b.im+ht c.c≤1073741824):Calls Tryz.prog 132 #[v0] W (Ret (RatP c.pow) S W):=by
 have h1:=hc_norm c.b
 have h2:=ht_mul c.a c.c
 refine Run.goP (S:=S) (Pack.nil.s spRing t0) Tryz.func132 rfl ?_
 refine Run.dr ?_
 refine RunD.cR spRat (fun _ _ _ H=>eNorm c.b (NumP.mk (H.f 1) (H.f 2)) (by first|omega|(dsimp only at *;omega))) ?_
 refine RunD.cR spRat (fun _ _ _ H=>eMul c.a c.c (RatP.n (H.f 0)) (RatP.n (H.f 3)) (by first|omega|(dsimp only at *;omega))) ?_
 refine RunD.cO 1 softRat (fun _ _ _ H=>qSub c.b.norm (c.a*c.c) (RatP.blk (H.oz 1)) (anyV (H.f 4)) (anyV (H.f 5)) (by first|omega|(dsimp only at *;omega))) ?_
 refine RunD.en ?_
 exact Run.rR (fun _ _ _ H=>H.s 1)
theorem rgNorm{v0:Value}(c:Ci)(t0:(RingP c).p S v0 W)(p0:ht c.a+ht c.b.re+ht c.b.im+ht c.c≤1073741824)(p1:c.flat=false):Calls Tryz.prog 188 #[v0] W (Ret (RingP c.nrm) S W):=by
 have h1:=ht_inv c.a
 have h2:=ht_inv c.b.re
 have h3:=ht_inv c.b.im
 refine Run.goP (S:=S) (Pack.nil.s spRing t0) Tryz.func188 rfl ?_
 refine Run.cR sp2Rat (fun _ _ _ H=>eParts c.b (NumP.mk (H.f 1) (H.f 2))) ?_
 refine Run.cV [.int .i64 c.a.num.sign] kb (fun _ _ _ H=>qSign c.a (H.f 0)) ?_
 refine Run.ic c.a.num.sign 0 (c.a.num.sign == 0) ?_
 refine (Bool.eq_false_or_eq_true (c.a.num.sign == 0)).elim (fun c1=>?_) (fun c1=>?_)
 · refine Run.kn c1 ?_
   refine Run.cV [.int .i64 c.b.re.num.sign] kb (fun _ _ _ H=>qSign c.b.re (H.f 4)) ?_
   refine Run.ic c.b.re.num.sign 0 (c.b.re.num.sign == 0) ?_
   refine (Bool.eq_false_or_eq_true (c.b.re.num.sign == 0)).elim (fun c2=>?_) (fun c2=>?_)
   · refine Run.kn c2 ?_
     refine Run.cO 3 softRat (fun _ _ _ H=>qInv c.b.im (RatP.blk (H.oz 3)) (anyV (H.f 5)) (by first|omega|(dsimp only at *;omega)|exact nz_2 p1 c1 c2|exact sgn_no c2|exact sgn_no c1) (by first|omega|(dsimp only at *;omega)|exact nz_2 p1 c1 c2|exact sgn_no c2|exact sgn_no c1)) ?_
     refine Run.dr ?_
     refine RunD.cRs [3] spRat (fun _ _ _ H=>eMul c.a (c.b.im⁻¹) (RatP.n (H.f 0)) (RatP.n (H.s 3)) (by first|omega|(dsimp only at *;omega)|exact nz_2 p1 c1 c2|exact sgn_no c2|exact sgn_no c1)) ?_
     refine RunD.cRs [3] spNum (fun _ _ _ H=>eScale c.b (c.b.im⁻¹) (NumP.mk (H.f 1) (H.f 2)) (RatP.n (H.s 3)) (by first|omega|(dsimp only at *;omega)|exact nz_2 p1 c1 c2|exact sgn_no c2|exact sgn_no c1)) ?_
     refine RunD.cRs [3] spRat (fun _ _ _ H=>eMul c.c (c.b.im⁻¹) (RatP.n (H.f 3)) (RatP.n (H.s 3)) (by first|omega|(dsimp only at *;omega)|exact nz_2 p1 c1 c2|exact sgn_no c2|exact sgn_no c1)) ?_
     refine RunD.en ?_
     exact Run.rR (fun _ _ _ H=>VPe (φ:=RingP) (nrm_2 c1 c2) (RingP.mk (H.f 7) (H.f 8) (H.f 9) (H.f 10)))
   · refine Run.kn c2 ?_
     refine Run.cO 3 softRat (fun _ _ _ H=>qInv c.b.re (RatP.blk (H.oz 3)) (anyV (H.f 4)) (by first|omega|(dsimp only at *;omega)|exact nz_2 p1 c1 c2|exact sgn_no c2|exact sgn_no c1) (by first|omega|(dsimp only at *;omega)|exact nz_2 p1 c1 c2|exact sgn_no c2|exact sgn_no c1)) ?_
     refine Run.dr ?_
     refine RunD.cRs [3] spRat (fun _ _ _ H=>eMul c.a (c.b.re⁻¹) (RatP.n (H.f 0)) (RatP.n (H.s 3)) (by first|omega|(dsimp only at *;omega)|exact nz_2 p1 c1 c2|exact sgn_no c2|exact sgn_no c1)) ?_
     refine RunD.cRs [3] spNum (fun _ _ _ H=>eScale c.b (c.b.re⁻¹) (NumP.mk (H.f 1) (H.f 2)) (RatP.n (H.s 3)) (by first|omega|(dsimp only at *;omega)|exact nz_2 p1 c1 c2|exact sgn_no c2|exact sgn_no c1)) ?_
     refine RunD.cRs [3] spRat (fun _ _ _ H=>eMul c.c (c.b.re⁻¹) (RatP.n (H.f 3)) (RatP.n (H.s 3)) (by first|omega|(dsimp only at *;omega)|exact nz_2 p1 c1 c2|exact sgn_no c2|exact sgn_no c1)) ?_
     refine RunD.en ?_
     exact Run.rR (fun _ _ _ H=>VPe (φ:=RingP) (nrm_1 c1 c2) (RingP.mk (H.f 7) (H.f 8) (H.f 9) (H.f 10)))
 · refine Run.kn c1 ?_
   refine Run.cV [.int .i64 c.a.num.sign] kb (fun _ _ _ H=>qSign c.a (H.f 0)) ?_
   refine Run.ic c.a.num.sign 0 (c.a.num.sign == 0) ?_
   refine Run.kn c1 ?_
   refine Run.cO 3 softRat (fun _ _ _ H=>qInv c.a (RatP.blk (H.oz 3)) (anyV (H.f 0)) (by first|omega|(dsimp only at *;omega)|exact nz_2 p1 c1 _|exact sgn_no _|exact sgn_no c1) (by first|omega|(dsimp only at *;omega)|exact nz_2 p1 c1 _|exact sgn_no _|exact sgn_no c1)) ?_
   refine Run.dr ?_
   refine RunD.cRs [3] spRat (fun _ _ _ H=>eMul c.a (c.a⁻¹) (RatP.n (H.f 0)) (RatP.n (H.s 3)) (by first|omega|(dsimp only at *;omega)|exact nz_2 p1 c1 _|exact sgn_no _|exact sgn_no c1)) ?_
   refine RunD.cRs [3] spNum (fun _ _ _ H=>eScale c.b (c.a⁻¹) (NumP.mk (H.f 1) (H.f 2)) (RatP.n (H.s 3)) (by first|omega|(dsimp only at *;omega)|exact nz_2 p1 c1 _|exact sgn_no _|exact sgn_no c1)) ?_
   refine RunD.cRs [3] spRat (fun _ _ _ H=>eMul c.c (c.a⁻¹) (RatP.n (H.f 3)) (RatP.n (H.s 3)) (by first|omega|(dsimp only at *;omega)|exact nz_2 p1 c1 _|exact sgn_no _|exact sgn_no c1)) ?_
   refine RunD.en ?_
   exact Run.rR (fun _ _ _ H=>VPe (φ:=RingP) (nrm_0 c1) (RingP.mk (H.f 7) (H.f 8) (H.f 9) (H.f 10)))
theorem eNeg{v0:Value}(x:Cx)(t0:(NumP x).p S v0 W)(p0:ht x.re+ht x.im≤8589934592):Calls Tryz.prog 133 #[v0] W (Ret (NumP x.neg) S W):=by
 refine Run.goP (S:=S) (Pack.nil.s spNum t0) Tryz.func133 rfl ?_
 refine Run.dr ?_
 refine RunD.cR spRat (fun _ _ _ H=>eRat x.re (H.f 0)) ?_
 refine RunD.cO 2 softRat (fun _ _ _ H=>qNeg x.re (RatP.blk (H.oz 2)) (anyV (H.f 2)) (by omega)) ?_
 refine RunD.cR spRat (fun _ _ _ H=>eRat x.im (H.f 1)) ?_
 refine RunD.cO 3 softRat (fun _ _ _ H=>qNeg x.im (RatP.blk (H.oz 3)) (anyV (H.f 4)) (by omega)) ?_
 refine RunD.en ?_
 exact Run.rR (fun _ _ _ H=>NumP.mk (RatP.n (H.s 2)) (RatP.n (H.s 3)))
end Go.Proofs.YtcboejgklgnifaaGreat
namespace Go.Proofs.YtcboejgklgnifaaGreat
open Go.RowKit Rgn
theorem gerr_1{x:Cx}(h:((gerr x) != 0)=true):gfits (rg x)=false:=by
 unfold gerr at h
 cases e:gfits (rg x) with
 | false=>rfl
 | true=>rw [if_pos e] at h;exact absurd h (by decide)
theorem gerr_0{x:Cx}(h:((gerr x) != 0)=false):gfits (rg x)=true:=by
 unfold gerr at h
 cases e:gfits (rg x) with
 | true=>rfl
 | false=>rw [if_neg (by rw [e];decide)] at h;exact absurd h (by decide)
theorem cifits_no{c:Ci}(h:((ferr c.a) != 0)=true∨((gerr c.b) != 0)=true∨((ferr c.c) != 0)=true):cifits (rci c)=false:=by
 show (fits (rf c.a)&&gfits (rg c.b)&&fits (rf c.c))=false
 rcases h with h|h|h
 ·rw [ferr_1 h];simp
 ·rw [gerr_1 h];simp
 ·rw [ferr_1 h];simp
theorem ccut_no{c:Ci}(h:((ferr c.a) != 0)=true∨((gerr c.b) != 0)=true∨((ferr c.c) != 0)=true):Value.tuple #[.agg zCi,.int .i64 4]=.tuple #[rciV (cicut c),.int .i64 (cierr c)]:=by
 unfold cicut cierr
 rw [if_neg (by rw [cifits_no h];decide),if_neg (by rw [cifits_no h];decide)]
theorem ccut_yes{c:Ci}(h1:((ferr c.a) != 0)=false)(h2:((gerr c.b) != 0)=false)(h3:((ferr c.c) != 0)=false):Value.tuple #[.agg #[.bool (fcut c.a).a.n,.string (fcut c.a).a.s,.bool (fcut c.a).b.n,.string (fcut c.a).b.s,.bool (gcut c.b).re.a.n,.string (gcut c.b).re.a.s,.bool (gcut c.b).re.b.n,.string (gcut c.b).re.b.s,.bool (gcut c.b).im.a.n,.string (gcut c.b).im.a.s,.bool (gcut c.b).im.b.n,.string (gcut c.b).im.b.s,.bool (fcut c.c).a.n,.string (fcut c.c).a.s,.bool (fcut c.c).b.n,.string (fcut c.c).b.s],.int .i64 0]=.tuple #[rciV (cicut c),.int .i64 (cierr c)]:=by
 have e:cifits (rci c)=true:=by
  show (fits (rf c.a)&&gfits (rg c.b)&&fits (rf c.c))=true
  rw [ferr_0 h1,gerr_0 h2,ferr_0 h3];rfl
 unfold cicut cierr fcut gcut
 rw [if_pos e,if_pos e,if_pos (ferr_0 h1),if_pos (gerr_0 h2),if_pos (ferr_0 h3)]
theorem undo_1{m:Mb}(h:m.t=true):(Mb.mk m.d.conj m.b.neg.conj m.c.neg.conj m.a.conj m.t).nrm=m.undo:=by unfold Mb.undo Mb.cjM cjC;rw [if_pos h,if_pos h,if_pos h,if_pos h]
theorem undo_0{m:Mb}(h:m.t=false):(Mb.mk m.d m.b.neg m.c.neg m.a m.t).nrm=m.undo:=by
 have h' : ¬ m.t=true:=by rw [h];decide
 unfold Mb.undo Mb.cjM cjC;rw [if_neg h', if_neg h', if_neg h', if_neg h']
theorem zero_eq{a b:Cx}(h:a=b)(hb:b.zero=false):a.zero=false:=h ▸ hb
theorem zero_conj(z:Cx):z.conj.zero=z.zero:=by
 unfold Cx.zero
 have e:decide (-z.im=0)=decide (z.im=0):=decide_eq_decide.2 ⟨fun h=>by grind,fun h=>by grind⟩
 show (decide (z.re=0)&&decide (-z.im=0))=_
 rw [e]
theorem det_undo(m:Mb):(Mb.mk m.d m.b.neg m.c.neg m.a m.t).det=m.det:=by
 refine Cx.ext' ?_ ?_
 ·show (m.d.re*m.a.re-m.d.im*m.a.im)-(-m.b.re*-m.c.re - -m.b.im*-m.c.im)=(m.a.re*m.d.re-m.a.im*m.d.im)-(m.b.re*m.c.re-m.b.im*m.c.im)
  grind
 ·show (m.d.re*m.a.im+m.d.im*m.a.re)-(-m.b.re*-m.c.im+-m.b.im*-m.c.re)=(m.a.re*m.d.im+m.a.im*m.d.re)-(m.b.re*m.c.im+m.b.im*m.c.re)
  grind
theorem det_undoC(m:Mb):(Mb.mk m.d.conj m.b.neg.conj m.c.neg.conj m.a.conj m.t).det=m.det.conj:=by
 refine Cx.ext' ?_ ?_
 ·show (m.d.re*m.a.re - -m.d.im*-m.a.im)-(-m.b.re*-m.c.re - - -m.b.im*- -m.c.im)=(m.a.re*m.d.re-m.a.im*m.d.im)-(m.b.re*m.c.re-m.b.im*m.c.im)
  grind
 ·show (m.d.re*-m.a.im+-m.d.im*m.a.re)-(-m.b.re*- -m.c.im+- -m.b.im*-m.c.re)=-((m.a.re*m.d.im+m.a.im*m.d.re)-(m.b.re*m.c.im+m.b.im*m.c.re))
  grind
theorem undo_p0{m:Mb}(p:m.det.zero=false)(h:m.t=false):(Mb.mk m.d m.b.neg m.c.neg m.a m.t).piv.zero=false:=det_piv (zero_eq (det_undo m) p)
theorem undo_p1{m:Mb}(p:m.det.zero=false)(h:m.t=true):(Mb.mk m.d.conj m.b.neg.conj m.c.neg.conj m.a.conj m.t).piv.zero=false:=det_piv (zero_eq (det_undoC m) (by rw [zero_conj];exact p))
theorem val_eq(c:Ci)(z:Cx):(0:Rat)+c.a*z.norm+((c.b.mul z).re+(c.b.mul z).re)+c.c=c.val z:=by unfold Ci.val;rw [Rat.zero_add]
def Ci.side(c:Ci)(p:Pn):Int:=if p.inf=true then c.a.num.sign else (c.val p.z).num.sign
theorem side_1{c:Ci}{p:Pn}(h:p.inf=true):Value.int .i64 c.a.num.sign=.int .i64 (c.side p):=by unfold Ci.side;rw [if_pos h]
theorem side_0{c:Ci}{p:Pn}(h:p.inf=false):Value.int .i64 (c.val p.z).num.sign=.int .i64 (c.side p):=by unfold Ci.side;rw [if_neg (by rw [h];decide)]
theorem pcut_inf{p:Pn}(h:p.inf=true):Value.tuple #[.agg #[.bool true,.bool false,.string ⟨#[]⟩,.bool false,.string ⟨#[]⟩,.bool false,.string ⟨#[]⟩,.bool false,.string ⟨#[]⟩],.int .i64 0]=.tuple #[rpnV (pncut p),.int .i64 (pnerr p)]:=by
 have e:pnfits p=true:=by unfold pnfits;rw [h];rfl
 unfold pncut pnerr pnR
 rw [if_pos e,if_pos e,if_pos h]
theorem pcut_num{p:Pn}(h:p.inf=false):Value.tuple #[.agg #[.bool false,.bool (gcut p.z).re.a.n,.string (gcut p.z).re.a.s,.bool (gcut p.z).re.b.n,.string (gcut p.z).re.b.s,.bool (gcut p.z).im.a.n,.string (gcut p.z).im.a.s,.bool (gcut p.z).im.b.n,.string (gcut p.z).im.b.s],.int .i64 (gerr p.z)]=.tuple #[rpnV (pncut p),.int .i64 (pnerr p)]:=by
 unfold pncut pnerr pnR gcut gerr pnfits
 rw [h]
 cases e:gfits (rg p.z) with
 | true=>simp
 | false=>simp
def Ci.dot(c d:Ci):Rat:=(c.a*d.c+d.a*c.c)*Rat.divInt (1:Int) (2:Int)-(c.b.mul d.b.conj).re
def Ci.plus(c d:Ci):Ci:=⟨c.a+d.a,c.b.add d.b,c.c+d.c⟩
@[reducible] def Ci.times(c:Ci)(x:Rat):Ci:=⟨c.a*x,c.b.scale x,c.c*x⟩
def Ci.out(c:Ci):Ci:=⟨-c.a,c.b.neg,-c.c⟩
@[reducible] def Ci.rim(c:Ci):Ci:=⟨c.a,c.b.conj.neg,c.c⟩
def Ci.touch(c d:Ci):Bool:=decide (c.dot d=1) && !decide (c=d.out)
theorem dot_eq(c d:Ci):((0:Rat)+c.a*d.c+d.a*c.c)*Rat.divInt (1:Int) (2:Int)-(c.b.mul d.b.conj).re=c.dot d:=by unfold Ci.dot;rw [Rat.zero_add]
theorem plus_eq(c d:Ci):Ci.mk ((0:Rat)+c.a+d.a) (c.b.add d.b) ((0:Rat)+c.c+d.c)=c.plus d:=by unfold Ci.plus;rw [Rat.zero_add,Rat.zero_add]
theorem neg_one_mul(x:Rat):x*Rat.divInt (-1:Int) (1:Int)=-x:=by
 rw [divInt_one]
 show x*((-1:Int):Rat)=-x
 have:(((-1:Int)):Rat)=-1:=rfl
 rw [this];grind
theorem out_eq(c:Ci):c.times (Rat.divInt (-1:Int) (1:Int))=c.out:=by
 unfold Ci.times Ci.out
 rw [neg_one_mul,neg_one_mul,show c.b.scale (Rat.divInt (-1:Int) (1:Int))=c.b.neg from Cx.ext' (neg_one_mul _) (neg_one_mul _)]
theorem dot_ht(c d:Ci):ht (c.dot d)≤2*(ht c.a+ht c.b.re+ht c.b.im+ht c.c+(ht d.a+ht d.b.re+ht d.b.im+ht d.c))+3:=by
 have z2:ht (Rat.divInt (1:Int) (2:Int))=3:=by decide
 have h1:=ht_mul c.a d.c
 have h2:=ht_mul d.a c.c
 have h3:=hc_conj d.b
 have h4:=hc_mul c.b d.b.conj
 have h5:=ht_add (c.a*d.c) (d.a*c.c)
 have h6:=ht_mul (c.a*d.c+d.a*c.c) (Rat.divInt (1:Int) (2:Int))
 have h7:=ht_sub ((c.a*d.c+d.a*c.c)*Rat.divInt (1:Int) (2:Int)) (c.b.mul d.b.conj).re
 unfold Ci.dot
 omega
theorem out_ht(c:Ci):ht c.out.a=ht c.a∧ht c.out.b.re=ht c.b.re∧ht c.out.b.im=ht c.b.im∧ht c.out.c=ht c.c:=⟨ht_neg _,ht_neg _,ht_neg _,ht_neg _⟩
theorem divInt_11:Rat.divInt (1:Int) (1:Int)=1:=divInt_one 1
theorem touch_1{c d:Ci}(h:(icmp ((c.dot d).num*((Rat.divInt (1:Int) (1:Int)).den:Int)) ((Rat.divInt (1:Int) (1:Int)).num*((c.dot d).den:Int)) == 0)=true):Value.bool (!decide (c=d.out))=.bool (c.touch d):=by
 rw [icmp_b,divInt_11] at h
 unfold Ci.touch;rw [h];rfl
theorem touch_0{c d:Ci}(h:(icmp ((c.dot d).num*((Rat.divInt (1:Int) (1:Int)).den:Int)) ((Rat.divInt (1:Int) (1:Int)).num*((c.dot d).den:Int)) == 0)=false):Value.bool false=.bool (c.touch d):=by
 rw [icmp_b,divInt_11] at h
 unfold Ci.touch;rw [h];rfl
theorem put_n1{m:Mb}{p:Pn}(h:(!p.inf)=true)(ht:m.t=true):m.put p=((m.a.mul p.z.conj).add m.b,(m.c.mul p.z.conj).add m.d):=by
 have h' : ¬ p.inf=true:=by cases e:p.inf<;>simp_all
 unfold Mb.put cjC
 rw [if_neg h', if_pos ht]
theorem put_n0{m:Mb}{p:Pn}(h:(!p.inf)=true)(ht:m.t=false):m.put p=((m.a.mul p.z).add m.b,(m.c.mul p.z).add m.d):=by
 have h' : ¬ p.inf=true:=by cases e:p.inf<;>simp_all
 unfold Mb.put cjC
 rw [if_neg h', if_neg (by rw [ht];decide)]
theorem put_i{m:Mb}{p:Pn}(h:(!p.inf)=false):m.put p=(m.a,m.c):=by
 have h' : p.inf=true:=by cases e:p.inf<;>simp_all
 unfold Mb.put
 rw [if_pos h']
theorem send_T{m:Mb}{p:Pn}{a b:Cx}(e:m.put p=(a,b))(h:b.zero=true):Pn.mk true ⟨0,0⟩=m.send p:=by unfold Mb.send;rw [e,if_pos h]
theorem send_F{m:Mb}{p:Pn}{a b:Cx}(e:m.put p=(a,b))(h:b.zero=false):Pn.mk false (a.div b)=m.send p:=by unfold Mb.send;rw [e,if_neg (by rw [h];decide)]
theorem send_n1T{m:Mb}{p:Pn}(h:(!p.inf)=true)(ht:m.t=true)(hz:((m.c.mul p.z.conj).add m.d).zero=true):Pn.mk true ⟨0,0⟩=m.send p:=send_T (put_n1 h ht) hz
theorem send_n1F{m:Mb}{p:Pn}(h:(!p.inf)=true)(ht:m.t=true)(hz:((m.c.mul p.z.conj).add m.d).zero=false):Pn.mk false (((m.a.mul p.z.conj).add m.b).div ((m.c.mul p.z.conj).add m.d))=m.send p:=send_F (put_n1 h ht) hz
theorem send_n0T{m:Mb}{p:Pn}(h:(!p.inf)=true)(ht:m.t=false)(hz:((m.c.mul p.z).add m.d).zero=true):Pn.mk true ⟨0,0⟩=m.send p:=send_T (put_n0 h ht) hz
theorem send_n0F{m:Mb}{p:Pn}(h:(!p.inf)=true)(ht:m.t=false)(hz:((m.c.mul p.z).add m.d).zero=false):Pn.mk false (((m.a.mul p.z).add m.b).div ((m.c.mul p.z).add m.d))=m.send p:=send_F (put_n0 h ht) hz
theorem send_iT{m:Mb}{p:Pn}(h:(!p.inf)=false)(hz:m.c.zero=true):Pn.mk true ⟨0,0⟩=m.send p:=send_T (put_i h) hz
theorem send_iF{m:Mb}{p:Pn}(h:(!p.inf)=false)(hz:m.c.zero=false):Pn.mk false (m.a.div m.c)=m.send p:=send_F (put_i h) hz
end Go.Proofs.YtcboejgklgnifaaGreat
namespace Go.Proofs.YtcboejgklgnifaaGreat
open Go.RowKit Rgn Eng
variable {S:Nat→Prop} {W:World}
theorem eSame{v0 v1:Value}(x y:Cx)(t0:(NumP x).p S v0 W)(t1:(NumP y).p S v1 W)(p0:ht x.re+ht x.im+ht y.re+ht y.im≤17179869184):Calls Tryz.prog 79 #[v0,v1] W (RetV (.bool ((x.sub y).zero)) W):=by
 have h1:=hc_sub x y
 refine Run.goP (S:=S) ((Pack.nil.s spNum t0).s spNum t1) Tryz.func79 rfl ?_
 refine Run.cR spNum (fun _ _ _ H=>eSub x y (NumP.mk (H.f 0) (H.f 1)) (NumP.mk (H.f 2) (H.f 3)) p0) ?_
 refine Run.cV [.bool ((x.sub y).zero)] kb (fun _ _ _ H=>eZero (x.sub y) (NumP.mk (H.f 4) (H.f 5))) ?_
 exact Run.rV rfl
end Go.Proofs.YtcboejgklgnifaaGreat
namespace Go.Proofs.YtcboejgklgnifaaGreat
open Go.RowKit Rgn
variable {S:Nat→Prop} {W:World}
theorem dsBy{v0 v1:Value}(c d:Ci)(t0:(RingP c).p S v0 W)(t1:(RingP d).p S v1 W)(p0:ht c.a+ht c.b.re+ht c.b.im+ht c.c+(ht d.a+ht d.b.re+ht d.b.im+ht d.c)≤67108864):Calls Tryz.prog 159 #[v0,v1] W (Ret (RatP (c.dot d)) S W):=by
 obtain⟨b1,x2,x3,b4,rfl,L1,L4,F1,F_x2,F_x3,F4⟩:=RingP.elim t0
 replace L1:Amb S W b1:=.inl L1
 replace F_x2:(RatN c.b.re).p (Amb S W) x2 W:=(RatN c.b.re).mono (fun _ _ h=>.inl h) F_x2
 replace F_x3:(RatN c.b.im).p (Amb S W) x3 W:=(RatN c.b.im).mono (fun _ _ h=>.inl h) F_x3
 replace L4:Amb S W b4:=.inl L4
 obtain⟨b5,x6,x7,b8,rfl,L5,L8,F5,F_x6,F_x7,F8⟩:=RingP.elim t1
 replace L5:Amb S W b5:=.inl L5
 replace F_x6:(RatN d.b.re).p (Amb S W) x6 W:=(RatN d.b.re).mono (fun _ _ h=>.inl h) F_x6
 replace F_x7:(RatN d.b.im).p (Amb S W) x7 W:=(RatN d.b.im).mono (fun _ _ h=>.inl h) F_x7
 replace L8:Amb S W b8:=.inl L8
 have z2:ht (Rat.divInt (1:Int) (2:Int))=3:=by decide
 have h1:=ht_mul c.a d.c
 have h2:=ht_mul d.a c.c
 have h3:=hc_conj d.b
 have h4:=hc_mul c.b d.b.conj
 have z0:=ht_zero
 have h5:=ht_add 0 (c.a*d.c)
 have h6:=ht_add (0+c.a*d.c) (d.a*c.c)
 have h7:=ht_mul (0+c.a*d.c+d.a*c.c) (Rat.divInt (1:Int) (2:Int))
 have bel:=b0 W
 go_enter Tryz.func159,Tryz.ntmps159
 refine gs 3 (Amb S W) fun _ K9=>?_
 refine .bx rfl (fun H=>H.v 0 (.agg #[pt b1,x2,x3,pt b4])) ?_
 refine .bx rfl (fun H=>H.v 1 (.agg #[pt b5,x6,x7,pt b8])) ?_
 refine .mc rfl ?_
 refine .dk (fun u=>.agg #[pt b1,x2,x3,pt b4]::.agg #[pt b5,x6,x7,pt b8]::sq u 0 3 (us 31)) K9 bel fun u1 w1 D bel=>?_
 obtain⟨b10,E1_0,A10,B10⟩:=D.nw 0
 obtain⟨b11,E1_1,A11,B11⟩:=D.nw 1
 have E1_2:=D.q 2
 replace F1:=D.o L1 F1
 replace F4:=D.o L4 F4
 replace F5:=D.o L5 F5
 replace F8:=D.o L8 F8
 replace F_x2:=D.gr (RatN c.b.re) F_x2
 replace F_x3:=D.gr (RatN c.b.im) F_x3
 replace F_x6:=D.gr (RatN d.b.re) F_x6
 replace F_x7:=D.gr (RatN d.b.im) F_x7
 clear D
 refine gd 13 (Amb S W) fun _ K12=>?_
 refine .fz rfl 2 0 E1_0 ?_
 refine .lc rfl 0 B10 ?_ (V:=pt b1)
 refine .fz rfl 3 3 E1_1 ?_
 refine .lc rfl 2 B11 ?_ (V:=pt b8)
 refine .cR rfl [] Tryz.func172 (fun H=>⟨_,ar2 (H.g 9 1) (H.g 11 3),eMul _ _ (RatP.n (H.was _ [] (VP.at F1 L1))) (RatP.n (H.was _ [] (VP.at F8 L8))) (by first|omega|(dsimp only at *;omega))⟩) ?_
 refine .fz rfl 3 0 E1_1 ?_
 refine .lc rfl 5 B11 ?_ (V:=pt b5)
 refine .fz rfl 2 3 E1_0 ?_
 refine .lc rfl 7 B10 ?_ (V:=pt b4)
 refine .cR rfl [] Tryz.func172 (fun H=>⟨_,ar2 (H.g 14 6) (H.g 16 8),eMul _ _ (RatP.n (H.was _ [] (VP.at F5 L5))) (RatP.n (H.was _ [] (VP.at F4 L4))) (by first|omega|(dsimp only at *;omega))⟩) ?_
 refine .br2 rfl [4,9] (fun H=>⟨_,_,(H.r 12 4),(H.r 17 9),(SV.sub [4,9] (H.a 4 rfl) rfl),(SV.sub [4,9] (H.a 9 rfl) rfl)⟩) ?_
 refine .cR rfl [4,9,10] Tryz.func166 (fun H=>⟨_,ar1 (H.r 18 10),ofF H.here.base.grow.size (eSum2 _ _ (SV.sub [4,9,10] (H.a 10 rfl) rfl) (by first|omega|(dsimp only at *;omega)))⟩) ?_
 refine .mn rfl 11 [4,9,10,11] ?_
 refine .dk (fun u=>.agg #[pt b1,x2,x3,pt b4]::.agg #[pt b5,x6,x7,pt b8]::sq u1 0 3 (u 12::U::U::sq u 0 12 (us 16))) K12 bel fun u2 w2 D bel=>?_
 obtain⟨b13,E2_12,A13,F13⟩:=RatNw.elim (D.rr 12)
 have N10_13:=Nat.ne_of_lt (Nat.lt_of_lt_of_le (lt_of B10) A13)
 have N11_13:=Nat.ne_of_lt (Nat.lt_of_lt_of_le (lt_of B11) A13)
 have N1_13:=Nat.ne_of_lt (Nat.lt_of_lt_of_le (RatP.lt F1) A13)
 have N4_13:=Nat.ne_of_lt (Nat.lt_of_lt_of_le (RatP.lt F4) A13)
 have N5_13:=Nat.ne_of_lt (Nat.lt_of_lt_of_le (RatP.lt F5) A13)
 have N8_13:=Nat.ne_of_lt (Nat.lt_of_lt_of_le (RatP.lt F8) A13)
 replace A13:=le2 D.le A13
 have L13:Amb S W b13:=.inr A13
 replace B10:=D.k B10
 replace B11:=D.k B11
 replace F1:=D.o L1 F1
 replace F4:=D.o L4 F4
 replace F5:=D.o L5 F5
 replace F8:=D.o L8 F8
 replace F_x2:=D.gr (RatN c.b.re) F_x2
 replace F_x3:=D.gr (RatN c.b.im) F_x3
 replace F_x6:=D.gr (RatN d.b.re) F_x6
 replace F_x7:=D.gr (RatN d.b.im) F_x7
 clear D
 refine gd 12 (Amb S W) fun _ K14=>?_
 refine .fz rfl 2 1 E1_0 ?_
 refine .lp rfl 0 (#[x2,x3]) B10 ?_
 refine .fz rfl 3 1 E1_1 ?_
 refine .lp rfl 2 (#[x6,x7]) B11 ?_
 refine .cR rfl [] Tryz.func126 (fun H=>⟨_,ar1 (H.g 24 3),eConj d.b (NumP.mk (H.was _ [] F_x6) (H.was _ [] F_x7)) (by first|omega|(dsimp only at *;omega))⟩) ?_
 refine .cR rfl [4] Tryz.func77 (fun H=>⟨_,ar2 (H.g 22 1) (H.r 25 4),eNMul c.b d.b.conj (NumP.mk (H.was _ [4] F_x2) (H.was _ [4] F_x3)) (SV.sub [4] (H.a 4 rfl) rfl) (by first|omega|(dsimp only at *;omega))⟩) ?_
 refine .cR rfl [4,5] Tryz.func127 (fun H=>⟨_,ar1 (H.r 26 5),eParts (c.b.mul d.b.conj) (SV.sub [4,5] (H.a 5 rfl) rfl)⟩) ?_
 refine .mn rfl 6 [4,5,6] ?_
 refine Go2.fn (i:=8) rfl (G0 rfl) (.val 8 [4,5,6,7] (RatP ((c.b.mul d.b.conj).re))) (fun u μ ρ H=>by have e20:=H.r 20 7;have h0:=(H.a 7 rfl);obtain⟨x0,x1,h1,h2⟩:=h0;rw [h1] at e20;exact⟨x0,by clear H;go_simp,SP.tupKeep (by decide) (by decide) h2.1⟩) ?_
 refine Go2.fn (i:=9) rfl (G0 rfl) (.val 9 [4,5,6,7] (RatP ((c.b.mul d.b.conj).im))) (fun u μ ρ H=>by have e20:=H.r 20 7;have h0:=(H.a 7 rfl);obtain⟨x0,x1,h1,h2⟩:=h0;rw [h1] at e20;exact⟨x1,by clear H;go_simp,SP.tupKeep (by decide) (by decide) h2.2⟩) ?_
 refine .mn rfl 8 [4,5,6,7,8] ?_
 refine .mn rfl 9 [4,5,6,7,9] ?_
 refine .dk (fun u=>.agg #[pt b1,x2,x3,pt b4]::.agg #[pt b5,x6,x7,pt b8]::sq u1 0 3 (u2 12::u 10::u 11::sq u2 0 12 (u 7::sq u 0 7 (u 8::u 9::us 6)))) K14 bel fun u3 w3 D bel=>?_
 obtain⟨b15,E3_10,L15,F15⟩:=RatP.elim (D.rr 10)
 replace F13:=D.o L13 F13
 clear D
 refine wp_seq_k fun _ K16=>?_
 refine go2_seqT 5 2 rfl (Amb S W) [] [] (Olds.nil _) (by kernel_rfl) ?_
 refine .mz rfl 5 E2_12 ?_
 refine .mz rfl 5 E2_12 ?_
 refine .cR rfl [] Tryz.func122 (fun H=>⟨_,ar2 (H.c (.int .i64 1)) (H.c (.int .i64 2)),qNewRat _ _ (by first|omega|(dsimp only at *;omega)) (by first|omega|(dsimp only at *;omega)) (by first|omega|(dsimp only at *;omega)) (by first|omega|(dsimp only at *;omega)) (by first|omega|(dsimp only at *;omega))⟩) ?_
 refine .cR rfl [2] Tryz.func172 (fun H=>⟨_,ar2 (H.g 31 1) (H.r 32 2),eMul _ _ (RatP.n (H.was _ [2] (VP.at F13 L13))) (RatP.n (SV.sub [2] (H.a 2 rfl) rfl)) (by first|omega|(dsimp only at *;omega))⟩) ?_
 refine .mz rfl 6 E3_10 ?_
 refine .dT (fun u=>.agg #[pt b1,x2,x3,pt b4]::.agg #[pt b5,x6,x7,pt b8]::u1 0::u1 1::u 6::u2 12::u3 10::u3 11::sq u2 0 12 (u3 7::sq u3 0 7 (u3 8::u3 9::sq u 0 6 []))) bel.size _ rfl fun u4 w4 D=>?_
 obtain⟨b17,E4_3,L17,F17⟩:=RatP.elim (D.rr 3)
 have E4_0:=D.q 0
 have E4_4:=D.q 4
 replace F13:=D.o L13 F13
 replace F15:=D.o L15 F15
 replace bel:=D.d.base.bel0 bel bel.size
 clear D
 refine wpT_callO (args:=#[pt b13,pt b17,pt b15]) rfl (ex_call rfl rfl Tryz.func121 (by kernel_rfl) (by kernel_rfl) (by simp only [List.map_toArray,List.map_cons,List.map_nil];show #[(u4 0).v,(u4 3).v,(u4 4).v]=#[pt b13,pt b17,pt b15];rw [E4_0,E4_3,E4_4])) (qSub (z:=b13) (x:=((0:Rat)+(c.a*d.c)+(d.a*c.c))*(Rat.divInt (1:Int) (2:Int))) (y:=(c.b.mul d.b.conj).re) (RatP.blk F13) (VP.any _ F17) (VP.any _ F15) (by first|omega|(dsimp only at *;omega))) fun w18 fw18 ow18=>?_
 have sw18:Soft w4 b13∨Local w4 b13:=.inl (RatP.soft F13)
 have F13:=fw18
 have L13:Amb S W b13:=.inr A13
 replace bel:=bel.trans (only_below' ow18 A13 bel.size)
 refine wpT_val rfl (ex_assign rfl) ?_
 refine wpList_nil ?_
 show _
 refine K16 _ _ ?_
 refine wp_ret ?_
 refine ret_ok rfl (by exact results_tmp' rfl rfl) ⟨_,rfl,?_,bel⟩
 exact rat_eq (dot_eq c d) (VP.at F13 L13)
end Go.Proofs.YtcboejgklgnifaaGreat
namespace Go.Proofs.YtcboejgklgnifaaGreat
open Go.RowKit Rgn Eng
variable {S:Nat→Prop} {W:World}
theorem dsPlus{v0 v1:Value}(c d:Ci)(t0:(RingP c).p S v0 W)(t1:(RingP d).p S v1 W)(p0:ht c.a+ht c.b.re+ht c.b.im+ht c.c+(ht d.a+ht d.b.re+ht d.b.im+ht d.c)≤67108864):Calls Tryz.prog 71 #[v0,v1] W (Ret (RingP (c.plus d)) S W):=by
 refine Run.goP (S:=S) ((Pack.nil.s spRing t0).s spRing t1) Tryz.func71 rfl ?_
 refine Run.dr ?_
 refine RunD.cR spRat (fun _ _ _ H=>retZ (eSum2 c.a d.a (RatsP.mk2 (H.b 3) (H.f 0) (H.f 4)) (by first|omega|(dsimp only at *;omega)))) ?_
 refine RunD.cR spNum (fun _ _ _ H=>eAdd c.b d.b (NumP.mk (H.f 1) (H.f 2)) (NumP.mk (H.f 5) (H.f 6)) (by first|omega|(dsimp only at *;omega))) ?_
 refine RunD.cR spRat (fun _ _ _ H=>retZ (eSum2 c.c d.c (RatsP.mk2 (H.b 4) (H.f 3) (H.f 7)) (by first|omega|(dsimp only at *;omega)))) ?_
 refine RunD.en ?_
 exact Run.rR (fun _ _ _ H=>VPe (φ:=RingP) (plus_eq c d) (RingP.mk (H.f 8) (H.f 9) (H.f 10) (H.f 11)))
theorem dsTimes{v0 v1:Value}(c:Ci)(x:Rat)(t0:(RingP c).p S v0 W)(t1:(RatP x).p S v1 W)(p0:ht c.a+ht c.b.re+ht c.b.im+ht c.c+ht x≤67108864):Calls Tryz.prog 129 #[v0,v1] W (Ret (RingP (c.times x)) S W):=by
 refine Run.goP (S:=S) ((Pack.nil.s spRing t0).s spRat t1) Tryz.func129 rfl ?_
 refine Run.dr ?_
 refine RunD.cR spRat (fun _ _ _ H=>eMul c.a x (RatP.n (H.f 0)) (RatP.n (H.f 4)) (by first|omega|(dsimp only at *;omega))) ?_
 refine RunD.cR spNum (fun _ _ _ H=>eScale c.b x (NumP.mk (H.f 1) (H.f 2)) (RatP.n (H.f 4)) (by first|omega|(dsimp only at *;omega))) ?_
 refine RunD.cR spRat (fun _ _ _ H=>eMul c.c x (RatP.n (H.f 3)) (RatP.n (H.f 4)) (by first|omega|(dsimp only at *;omega))) ?_
 refine RunD.en ?_
 exact Run.rR (fun _ _ _ H=>RingP.mk (H.f 5) (H.f 6) (H.f 7) (H.f 8))
theorem dsOut{v0:Value}(c:Ci)(t0:(RingP c).p S v0 W)(p0:ht c.a+ht c.b.re+ht c.b.im+ht c.c≤67108000):Calls Tryz.prog 91 #[v0] W (Ret (RingP c.out) S W):=by
 have z2:ht (Rat.divInt (-1:Int) (1:Int))=2:=by decide
 refine Run.goP (S:=S) (Pack.nil.s spRing t0) Tryz.func91 rfl ?_
 refine Run.dr ?_
 refine RunD.cR spRat (fun _ _ _ H=>qNewRat (-1) 1 (by decide) (by decide) (by decide) (by decide) (by decide)) ?_
 refine RunD.cR spRing (fun _ _ _ H=>dsTimes c (Rat.divInt (-1) 1) (RingP.mk (H.f 0) (H.f 1) (H.f 2) (H.f 3)) (H.f 4) (by first|omega|(dsimp only at *;omega))) ?_
 refine RunD.en ?_
 exact Run.rR (fun _ _ _ H=>VPe (φ:=RingP) (out_eq c) (RingP.mk (H.f 5) (H.f 6) (H.f 7) (H.f 8)))
theorem dsSame{v0 v1:Value}(c d:Ci)(t0:(RingP c).p S v0 W)(t1:(RingP d).p S v1 W)(p0:ht c.a+ht c.b.re+ht c.b.im+ht c.c+(ht d.a+ht d.b.re+ht d.b.im+ht d.c)≤1073741824):Calls Tryz.prog 231 #[v0,v1] W (RetV (.bool (decide (c=d))) W):=by
 refine Run.goP (S:=S) ((Pack.nil.s spRing t0).s spRing t1) Tryz.func231 rfl ?_
 refine Run.cV [.int .i64 (icmp (c.a.num*(d.a.den:Int)) (d.a.num*(c.a.den:Int)))] kb (fun _ _ _ H=>qCmp c.a d.a (H.f 0) (H.f 4) (by first|omega|(dsimp only at *;omega))) ?_
 refine Run.ic (icmp (c.a.num*(d.a.den:Int)) (d.a.num*(c.a.den:Int))) 0 ((icmp (c.a.num*(d.a.den:Int)) (d.a.num*(c.a.den:Int))) == 0) ?_
 refine (Bool.eq_false_or_eq_true ((icmp (c.a.num*(d.a.den:Int)) (d.a.num*(c.a.den:Int))) == 0)).elim (fun c1=>?_) (fun c1=>?_)
 · refine Run.kn c1 ?_
   refine Run.cV [.bool ((c.b.sub d.b).zero)] kb (fun _ _ _ H=>eSame c.b d.b (NumP.mk (H.f 1) (H.f 2)) (NumP.mk (H.f 5) (H.f 6)) (by first|omega|(dsimp only at *;omega))) ?_
   refine (Bool.eq_false_or_eq_true ((c.b.sub d.b).zero)).elim (fun c2=>?_) (fun c2=>?_)
   · refine Run.kn c2 ?_
     refine Run.cV [.int .i64 (icmp (c.c.num*(d.c.den:Int)) (d.c.num*(c.c.den:Int)))] kb (fun _ _ _ H=>qCmp c.c d.c (H.f 3) (H.f 7) (by first|omega|(dsimp only at *;omega))) ?_
     refine Run.ic (icmp (c.c.num*(d.c.den:Int)) (d.c.num*(c.c.den:Int))) 0 ((icmp (c.c.num*(d.c.den:Int)) (d.c.num*(c.c.den:Int))) == 0) ?_
     exact Run.rV (V' := .bool ((icmp (c.c.num*(d.c.den:Int)) (d.c.num*(c.c.den:Int))) == 0)) (by rw [← sm_dec];unfold Ci.sm;rw [c1,c2];rfl)
   · refine Run.kn c2 ?_
     exact Run.rV (V' := .bool false) (by rw [← sm_dec];unfold Ci.sm;rw [c1,c2];rfl)
 · refine Run.kn c1 ?_
   exact Run.rV (V' := .bool false) (by rw [← sm_dec];unfold Ci.sm;rw [c1];rfl)
theorem dsRim{v0:Value}(c:Ci)(t0:(RingP c).p S v0 W)(p0:ht c.a+ht c.b.re+ht c.b.im+ht c.c≤67108000):Calls Tryz.prog 150 #[v0] W (Ret (RingP c.rim) S W):=by
 have h1:=hc_conj c.b
 refine Run.goP (S:=S) (Pack.nil.s spRing t0) Tryz.func150 rfl ?_
 refine Run.dr ?_
 refine RunD.cR spNum (fun _ _ _ H=>eConj c.b (NumP.mk (H.f 1) (H.f 2)) (by first|omega|(dsimp only at *;omega))) ?_
 refine RunD.cR spNum (fun _ _ _ H=>eNeg c.b.conj (NumP.mk (H.f 4) (H.f 5)) (by first|omega|(dsimp only at *;omega))) ?_
 refine RunD.en ?_
 exact Run.rR (fun _ _ _ H=>RingP.mk (H.f 0) (H.f 6) (H.f 7) (H.f 3))
theorem dsTold{v0:Value}(c:Ci)(t0:(RingP c).p S v0 W)(p0:ht c.a+ht c.b.re+ht c.b.im+ht c.c≤1073741824):Calls Tryz.prog 70 #[v0] W (RetV (.tuple #[rciV (cicut c),.int .i64 (cierr c)]) W):=by
 refine Run.goP (S:=S) (Pack.nil.s spRing t0) Tryz.func70 rfl ?_
 refine Run.cV ((rfC (fcut c.a)).toList++[.int .i64 (ferr c.a)]) (.tup [.agg (ks 0 4),.o (.k 4)]) (fun _ _ _ H=>eFrac c.a (RatP.n (H.f 0)) (by first|omega|(dsimp only at *;omega))) ?_
 refine Run.cV ((rgC (gcut c.b)).toList++[.int .i64 (gerr c.b)]) (.tup [.agg (ks 0 8),.o (.k 8)]) (fun _ _ _ H=>eTold c.b (NumP.mk (H.f 1) (H.f 2)) (by first|omega|(dsimp only at *;omega))) ?_
 refine Run.cV ((rfC (fcut c.c)).toList++[.int .i64 (ferr c.c)]) (.tup [.agg (ks 0 4),.o (.k 4)]) (fun _ _ _ H=>eFrac c.c (RatP.n (H.f 3)) (by first|omega|(dsimp only at *;omega))) ?_
 refine Run.ic (ferr c.a) 0 ((ferr c.a) != 0) ?_
 refine (Bool.eq_false_or_eq_true ((ferr c.a) != 0)).elim (fun c1=>?_) (fun c1=>?_)
 · refine Run.kn c1 ?_
   exact Run.rV (ccut_no (.inl c1))
 · refine Run.kn c1 ?_
   refine Run.ic (gerr c.b) 0 ((gerr c.b) != 0) ?_
   refine (Bool.eq_false_or_eq_true ((gerr c.b) != 0)).elim (fun c2=>?_) (fun c2=>?_)
   · refine Run.kn c2 ?_
     exact Run.rV (ccut_no (.inr (.inl c2)))
   · refine Run.kn c2 ?_
     refine Run.ic (ferr c.c) 0 ((ferr c.c) != 0) ?_
     refine (Bool.eq_false_or_eq_true ((ferr c.c) != 0)).elim (fun c3=>?_) (fun c3=>?_)
     · refine Run.kn c3 ?_
       exact Run.rV (ccut_no (.inr (.inr c3)))
     · refine Run.kn c3 ?_
       exact Run.rV (ccut_yes c1 c2 c3)
end Go.Proofs.YtcboejgklgnifaaGreat
namespace Go.Proofs.YtcboejgklgnifaaGreat
open Go.RowKit Rgn
variable {S:Nat→Prop} {W:World}
theorem dsTouch{v0 v1:Value}(c d:Ci)(t0:(RingP c).p S v0 W)(t1:(RingP d).p S v1 W)(p0:ht c.a+ht c.b.re+ht c.b.im+ht c.c+(ht d.a+ht d.b.re+ht d.b.im+ht d.c)≤67108000):Calls Tryz.prog 183 #[v0,v1] W (RetV (.bool (c.touch d)) W):=by
 obtain⟨b1,x2,x3,b4,rfl,L1,L4,F1,F_x2,F_x3,F4⟩:=RingP.elim t0
 replace L1:Amb S W b1:=.inl L1
 replace F_x2:(RatN c.b.re).p (Amb S W) x2 W:=(RatN c.b.re).mono (fun _ _ h=>.inl h) F_x2
 replace F_x3:(RatN c.b.im).p (Amb S W) x3 W:=(RatN c.b.im).mono (fun _ _ h=>.inl h) F_x3
 replace L4:Amb S W b4:=.inl L4
 obtain⟨b5,x6,x7,b8,rfl,L5,L8,F5,F_x6,F_x7,F8⟩:=RingP.elim t1
 replace L5:Amb S W b5:=.inl L5
 replace F_x6:(RatN d.b.re).p (Amb S W) x6 W:=(RatN d.b.re).mono (fun _ _ h=>.inl h) F_x6
 replace F_x7:(RatN d.b.im).p (Amb S W) x7 W:=(RatN d.b.im).mono (fun _ _ h=>.inl h) F_x7
 replace L8:Amb S W b8:=.inl L8
 have h1:=dot_ht c d
 have h2:=out_ht d
 have z2:ht (Rat.divInt (1:Int) (1:Int))=2:=by decide
 have bel:=b0 W
 go_enter Tryz.func183,Tryz.ntmps183
 refine gs 3 (Amb S W) fun _ K9=>?_
 refine .bx rfl (fun H=>H.v 0 (.agg #[pt b1,x2,x3,pt b4])) ?_
 refine .bx rfl (fun H=>H.v 1 (.agg #[pt b5,x6,x7,pt b8])) ?_
 refine .mc rfl ?_
 refine .dk (fun u=>.agg #[pt b1,x2,x3,pt b4]::.agg #[pt b5,x6,x7,pt b8]::sq u 0 3 (us 13)) K9 bel fun u1 w1 D bel=>?_
 obtain⟨b10,E1_0,A10,B10⟩:=D.nw 0
 obtain⟨b11,E1_1,A11,B11⟩:=D.nw 1
 have E1_2:=D.q 2
 replace F1:=D.o L1 F1
 replace F4:=D.o L4 F4
 replace F5:=D.o L5 F5
 replace F8:=D.o L8 F8
 replace F_x2:=D.gr (RatN c.b.re) F_x2
 replace F_x3:=D.gr (RatN c.b.im) F_x3
 replace F_x6:=D.gr (RatN d.b.re) F_x6
 replace F_x7:=D.gr (RatN d.b.im) F_x7
 clear D
 rcases Bool.eq_false_or_eq_true ((icmp ((c.dot d).num*((Rat.divInt (1:Int) (1:Int)).den:Int)) ((Rat.divInt (1:Int) (1:Int)).num*((c.dot d).den:Int))) == 0) with c13|c13
 ·
  refine gd 14 (Amb S W) fun _ K12=>?_
  refine .lr rfl 2 E1_0 B10 ?_
  refine .lr rfl 3 E1_1 B11 ?_
  refine .cR rfl [] Tryz.func159 (fun H=>⟨_,ar2 (H.g 5 0) (H.g 6 1),dsBy _ _ (RingP.mk (H.was _ [] (VP.at F1 L1)) (H.was _ [] F_x2) (H.was _ [] F_x3) (H.was _ [] (VP.at F4 L4))) (RingP.mk (H.was _ [] (VP.at F5 L5)) (H.was _ [] F_x6) (H.was _ [] F_x7) (H.was _ [] (VP.at F8 L8))) (by omega)⟩) ?_
  refine .cR rfl [] Tryz.func122 (fun H=>⟨_,ar2 (H.c (.int .i64 1)) (H.c (.int .i64 1)),qNewRat _ _ (by omega) (by omega) (by omega) (by omega) (by omega)⟩) ?_
  refine .cK rfl Tryz.func73 (fun H=>⟨_,ar2 (H.r 7 2) (H.r 8 3),qCmp _ _ (SV.any (H.a 2 rfl)) (SV.any (H.a 3 rfl)) (by omega)⟩) ?_
  refine .e rfl (V:=.bool true) (fun H=>x_cm (H.g 9 4) (H.c _) c13) ?_
  refine .mv rfl 5 ?_
  refine .lr rfl 2 E1_0 B10 ?_ (hg:=gq 6 rfl)
  refine .lr rfl 3 E1_1 B11 ?_ (hg:=gq 6 rfl)
  refine .cR rfl [] Tryz.func91 (fun H=>⟨_,ar1 (H.g 13 8),dsOut _ (RingP.mk (H.was _ [] (VP.at F5 L5)) (H.was _ [] F_x6) (H.was _ [] F_x7) (H.was _ [] (VP.at F8 L8))) (by omega)⟩) ?_ (hg:=gq 6 rfl)
  refine .cK rfl Tryz.func231 (fun H=>⟨_,ar2 (H.g 12 7) (H.r 14 9),dsSame _ _ (RingP.mk (VP.any _ (H.was _ [] (VP.at F1 L1))) (VP.any _ (H.was _ [] F_x2)) (VP.any _ (H.was _ [] F_x3)) (VP.any _ (H.was _ [] (VP.at F4 L4)))) (SV.any (H.a 9 rfl)) (by omega)⟩) ?_ (hg:=gq 6 rfl)
  refine .e rfl (V:=.bool (!(decide (c=d.out)))) (fun H=>x_not (H.g 15 10)) ?_ (hg:=gq 6 rfl)
  refine .e rfl (fun H=>x_pkT (H.g 11 6) (H.g 16 11)) ?_
  refine .mv rfl 12 ?_
  refine .dk (fun u=>.agg #[pt b1,x2,x3,pt b4]::.agg #[pt b5,x6,x7,pt b8]::u1 0::u1 1::u 13::sq u 0 13 []) K12 bel fun u2 w2 D bel=>?_
  have E2_13:=D.q 13
  clear D
  exact wp_ret (rt rfl E2_13 (touch_1 c13) bel)
 ·
  refine gd 14 (Amb S W) fun _ K12=>?_
  refine .lr rfl 2 E1_0 B10 ?_
  refine .lr rfl 3 E1_1 B11 ?_
  refine .cR rfl [] Tryz.func159 (fun H=>⟨_,ar2 (H.g 5 0) (H.g 6 1),dsBy _ _ (RingP.mk (H.was _ [] (VP.at F1 L1)) (H.was _ [] F_x2) (H.was _ [] F_x3) (H.was _ [] (VP.at F4 L4))) (RingP.mk (H.was _ [] (VP.at F5 L5)) (H.was _ [] F_x6) (H.was _ [] F_x7) (H.was _ [] (VP.at F8 L8))) (by omega)⟩) ?_
  refine .cR rfl [] Tryz.func122 (fun H=>⟨_,ar2 (H.c (.int .i64 1)) (H.c (.int .i64 1)),qNewRat _ _ (by omega) (by omega) (by omega) (by omega) (by omega)⟩) ?_
  refine .cK rfl Tryz.func73 (fun H=>⟨_,ar2 (H.r 7 2) (H.r 8 3),qCmp _ _ (SV.any (H.a 2 rfl)) (SV.any (H.a 3 rfl)) (by omega)⟩) ?_
  refine .e rfl (V:=.bool false) (fun H=>x_cm (H.g 9 4) (H.c _) c13) ?_
  refine .mv rfl 5 ?_
  refine .sk rfl 6 ?_
  refine .sk rfl 6 ?_
  refine .sk rfl 6 ?_
  refine .sk rfl 6 ?_
  refine .sk rfl 6 ?_
  refine .e rfl (fun H=>x_pkF (H.g 11 6) (H.c _)) ?_
  refine .mv rfl 12 ?_
  refine .dk (fun u=>.agg #[pt b1,x2,x3,pt b4]::.agg #[pt b5,x6,x7,pt b8]::u1 0::u1 1::u 13::sq u 0 13 []) K12 bel fun u2 w2 D bel=>?_
  have E2_13:=D.q 13
  clear D
  exact wp_ret (rt rfl E2_13 (touch_0 c13) bel)
end Go.Proofs.YtcboejgklgnifaaGreat
namespace Go.Proofs.YtcboejgklgnifaaGreat
open Go.RowKit Rgn Eng
variable {S:Nat→Prop} {W:World}
theorem mtDet{v0:Value}(m:Mb)(t0:(MatP m).p S v0 W)(p0:ht m.a.re+ht m.a.im+ht m.b.re+ht m.b.im+ht m.c.re+ht m.c.im+ht m.d.re+ht m.d.im≤1073741824):Calls Tryz.prog 148 #[v0] W (Ret (NumP m.det) S W):=by
 have h1:=hc_mul m.a m.d
 have h2:=hc_mul m.b m.c
 refine Run.goP (S:=S) (Pack.nil.s spMat t0) Tryz.func148 rfl ?_
 refine Run.dr ?_
 refine RunD.cR spNum (fun _ _ _ H=>eNMul m.a m.d (NumP.mk (H.f 0) (H.f 1)) (NumP.mk (H.f 6) (H.f 7)) (by first|omega|(dsimp only at *;omega))) ?_
 refine RunD.cR spNum (fun _ _ _ H=>eNMul m.b m.c (NumP.mk (H.f 2) (H.f 3)) (NumP.mk (H.f 4) (H.f 5)) (by first|omega|(dsimp only at *;omega))) ?_
 refine RunD.cR spNum (fun _ _ _ H=>eSub (m.a.mul m.d) (m.b.mul m.c) (NumP.mk (H.f 8) (H.f 9)) (NumP.mk (H.f 10) (H.f 11)) (by first|omega|(dsimp only at *;omega))) ?_
 refine RunD.en ?_
 exact Run.rR (fun _ _ _ H=>NumP.mk (H.f 12) (H.f 13))
theorem mtNorm{v0:Value}(m:Mb)(t0:(MatP m).p S v0 W)(p0:ht m.a.re+ht m.a.im+ht m.b.re+ht m.b.im+ht m.c.re+ht m.c.im+ht m.d.re+ht m.d.im≤536870912)(p1:m.piv.zero=false):Calls Tryz.prog 189 #[v0] W (Ret (MatP m.nrm) S W):=by
 refine Run.goP (S:=S) (Pack.nil.s spMat t0) Tryz.func189 rfl ?_
 refine Run.cV [.bool m.c.zero] kb (fun _ _ _ H=>eZero m.c (NumP.mk (H.f 4) (H.f 5))) ?_
 refine (Bool.eq_false_or_eq_true (m.c.zero)).elim (fun c1=>?_) (fun c1=>?_)
 · refine Run.kn c1 ?_
   refine Run.dr ?_
   refine RunD.cR spNum (fun _ _ _ H=>eDiv m.a m.d (NumP.mk (H.f 0) (H.f 1)) (NumP.mk (H.f 6) (H.f 7)) (by first|omega|(dsimp only at *;omega)|exact mnz_1 p1 c1|exact mnz_0 c1) (by first|omega|(dsimp only at *;omega)|exact mnz_1 p1 c1|exact mnz_0 c1)) ?_
   refine RunD.cR spNum (fun _ _ _ H=>eDiv m.b m.d (NumP.mk (H.f 2) (H.f 3)) (NumP.mk (H.f 6) (H.f 7)) (by first|omega|(dsimp only at *;omega)|exact mnz_1 p1 c1|exact mnz_0 c1) (by first|omega|(dsimp only at *;omega)|exact mnz_1 p1 c1|exact mnz_0 c1)) ?_
   refine RunD.cR spNum (fun _ _ _ H=>eDiv m.c m.d (NumP.mk (H.f 4) (H.f 5)) (NumP.mk (H.f 6) (H.f 7)) (by first|omega|(dsimp only at *;omega)|exact mnz_1 p1 c1|exact mnz_0 c1) (by first|omega|(dsimp only at *;omega)|exact mnz_1 p1 c1|exact mnz_0 c1)) ?_
   refine RunD.cR spNum (fun _ _ _ H=>eDiv m.d m.d (NumP.mk (H.f 6) (H.f 7)) (NumP.mk (H.f 6) (H.f 7)) (by first|omega|(dsimp only at *;omega)|exact mnz_1 p1 c1|exact mnz_0 c1) (by first|omega|(dsimp only at *;omega)|exact mnz_1 p1 c1|exact mnz_0 c1)) ?_
   refine RunD.en ?_
   exact Run.rR (fun _ _ _ H=>VPe (φ:=MatP) (mnrm_1 c1) (MatP.mk (H.f 8) (H.f 9) (H.f 10) (H.f 11) (H.f 12) (H.f 13) (H.f 14) (H.f 15)))
 · refine Run.kn c1 ?_
   refine Run.dr ?_
   refine RunD.cR spNum (fun _ _ _ H=>eDiv m.a m.c (NumP.mk (H.f 0) (H.f 1)) (NumP.mk (H.f 4) (H.f 5)) (by first|omega|(dsimp only at *;omega)|exact mnz_1 p1 c1|exact mnz_0 c1) (by first|omega|(dsimp only at *;omega)|exact mnz_1 p1 c1|exact mnz_0 c1)) ?_
   refine RunD.cR spNum (fun _ _ _ H=>eDiv m.b m.c (NumP.mk (H.f 2) (H.f 3)) (NumP.mk (H.f 4) (H.f 5)) (by first|omega|(dsimp only at *;omega)|exact mnz_1 p1 c1|exact mnz_0 c1) (by first|omega|(dsimp only at *;omega)|exact mnz_1 p1 c1|exact mnz_0 c1)) ?_
   refine RunD.cR spNum (fun _ _ _ H=>eDiv m.c m.c (NumP.mk (H.f 4) (H.f 5)) (NumP.mk (H.f 4) (H.f 5)) (by first|omega|(dsimp only at *;omega)|exact mnz_1 p1 c1|exact mnz_0 c1) (by first|omega|(dsimp only at *;omega)|exact mnz_1 p1 c1|exact mnz_0 c1)) ?_
   refine RunD.cR spNum (fun _ _ _ H=>eDiv m.d m.c (NumP.mk (H.f 6) (H.f 7)) (NumP.mk (H.f 4) (H.f 5)) (by first|omega|(dsimp only at *;omega)|exact mnz_1 p1 c1|exact mnz_0 c1) (by first|omega|(dsimp only at *;omega)|exact mnz_1 p1 c1|exact mnz_0 c1)) ?_
   refine RunD.en ?_
   exact Run.rR (fun _ _ _ H=>VPe (φ:=MatP) (mnrm_0 c1) (MatP.mk (H.f 8) (H.f 9) (H.f 10) (H.f 11) (H.f 12) (H.f 13) (H.f 14) (H.f 15)))
end Go.Proofs.YtcboejgklgnifaaGreat
namespace Go.Proofs.YtcboejgklgnifaaGreat
open Go.RowKit Rgn
noncomputable def valM(r:RF):Rat:=if h:fmay r=true then (fmay_ex h).choose else 0
theorem valM_rf{q:Rat}(h:fmay (rf q)=true):valM (rf q)=q:=by
 unfold valM
 rw [dif_pos h]
 exact (rf_inj (fmay_ex h).choose_spec).symm
theorem ratw_yes{x y:Int}(h0:¬ y<0)(h1:¬ y.natAbs=0)(h2:¬ (1024:Int)<(((bS x.natAbs).size:Nat):Int))(h3:¬ (1024:Int)<(((bS y.natAbs).size:Nat):Int))(h4:((icmp ((Rat.divInt x y).num) x) != 0)=false)(h5:((icmp ((Rat.divInt x y).den:Int) y) != 0)=false):fmay (RF.mk (rw x) (rw y))=true:=by
 have e4:(Rat.divInt x y).num=x:=icmp0.1 (by simpa using h4)
 have e5:((Rat.divInt x y).den:Int)=y:=icmp0.1 (by simpa using h5)
 have e:RF.mk (rw x) (rw y)=rf (Rat.divInt x y):=by
  show _=RF.mk (rw (Rat.divInt x y).num) (rw ((Rat.divInt x y).den:Int))
  rw [e4,e5]
 have hf:fits (RF.mk (rw x) (rw y))=true:=by
  unfold fits
  show (decide ((bS x.natAbs).size≤1024)&&decide ((bS y.natAbs).size≤1024))=true
  rw [decide_eq_true (by omega),decide_eq_true (by omega)];rfl
 unfold fmay
 rw [hf,e,fformed_rf];rfl
def Mb.form(m:Mb):Bool:=(m.c.sub (Cx.ofInt (1:Int) (0:Int))).zero||(m.c.zero&&(m.d.sub (Cx.ofInt (1:Int) (0:Int))).zero)
open Classical in
open Classical in
noncomputable def dsOk(r:RCi):Bool:=decide (∃ c,r=rci c∧cifits (rci c)=true∧c.dot c=-1)
open Classical in
noncomputable def mbOk(r:RMb):Bool:=decide (∃ m,r=rmb m∧mbfits (rmb m)=true∧m.det.zero=false∧m.form=true)
open Classical in
noncomputable def pnOk(r:RPn):Bool:=if r.inf=true then decide (r=RPn.mk true rz) else gmay r.z
theorem plate_eq(c:Ci):Value.bool (icmp ((c.dot c).num*((Rat.divInt (-1:Int) (1:Int)).den:Int)) ((Rat.divInt (-1:Int) (1:Int)).num*((c.dot c).den:Int)) == 0)=.bool (decide (c.dot c=-1)):=by
 rw [icmp_b,divInt_one];rfl
theorem spot_1{r:RPn}(h:r.inf=true):Value.bool (decide (r=RPn.mk true rz))=.bool (pnOk r):=by unfold pnOk;rw [if_pos h]
theorem spot_0{r:RPn}(h:r.inf=false):Value.bool (gmay r.z)=.bool (pnOk r):=by unfold pnOk;rw [if_neg (by rw [h];decide)]
theorem dsOk_ex{r:RCi}(h:dsOk r=true):∃ c,r=rci c∧cifits (rci c)=true∧c.dot c=-1:=by
 unfold dsOk at h;classical exact of_decide_eq_true h
theorem mbOk_ex{r:RMb}(h:mbOk r=true):∃ m,r=rmb m∧mbfits (rmb m)=true∧m.det.zero=false∧m.form=true:=by
 unfold mbOk at h;classical exact of_decide_eq_true h
theorem dsOk_c{c:Ci}(h:dsOk (rci c)=true):cifits (rci c)=true∧c.dot c=-1:=by
 obtain⟨d,e,h⟩:=dsOk_ex h
 obtain rfl:=rci_inj e
 exact h
theorem mbOk_c{c:Mb}(h:mbOk (rmb c)=true):mbfits (rmb c)=true∧c.det.zero=false∧c.form=true:=by
 obtain⟨d,e,h⟩:=mbOk_ex h
 obtain rfl:=rmb_inj e
 exact h
theorem ci_of{r:RCi}(h1:fmay r.a=true)(h2:gmay r.b=true)(h3:fmay r.c=true):∃ c,r=rci c∧cifits (rci c)=true:=by
 obtain⟨a,b,c⟩:=r
 obtain⟨x,rfl⟩:=fmay_ex h1
 obtain⟨y,rfl⟩:=gmay_ex h2
 obtain⟨z,rfl⟩:=fmay_ex h3
 refine⟨⟨x,y,z⟩,rfl,?_⟩
 show (fits (rf x)&&gfits (rg y)&&fits (rf z))=true
 rw [gmay_rg] at h2
 rw [(and_tt h1).1,h2,(and_tt h3).1];rfl
theorem mb_of{r:RMb}(h:(gmay r.a&&gmay r.b&&gmay r.c&&gmay r.d)=true):∃ m,r=rmb m∧mbfits (rmb m)=true:=by
 obtain⟨a,b,c,d,t⟩:=r
 obtain⟨h1,h2,h3,h4⟩:=and_4 h
 obtain⟨x,rfl⟩:=gmay_ex h1
 obtain⟨y,rfl⟩:=gmay_ex h2
 obtain⟨z,rfl⟩:=gmay_ex h3
 obtain⟨u,rfl⟩:=gmay_ex h4
 refine⟨⟨x,y,z,u,t⟩,rfl,?_⟩
 rw [gmay_rg] at h1 h2 h3 h4
 show (gfits (rg x)&&gfits (rg y)&&gfits (rg z)&&gfits (rg u))=true
 rw [h1,h2,h3,h4];rfl
theorem dsOk_no{r:RCi}(h:dsOk r=false):¬ ∃ c,r=rci c∧cifits (rci c)=true∧c.dot c=-1:=by unfold dsOk at h;classical exact of_decide_eq_false h
theorem mbOk_no{r:RMb}(h:mbOk r=false):¬ ∃ m,r=rmb m∧mbfits (rmb m)=true∧m.det.zero=false∧m.form=true:=by unfold mbOk at h;classical exact of_decide_eq_false h
theorem dsOk_yes{c:Ci}(h1:cifits (rci c)=true)(h2:c.dot c=-1):dsOk (rci c)=true:=by unfold dsOk;classical exact decide_eq_true ⟨c,rfl,h1,h2⟩
theorem ht_dvI{a b:Int}(h:0<b){n:Nat}(h1:max (hi a) (hi b)≤n):ht (Rat.divInt a b)≤n+1:=by
 obtain⟨m,rfl⟩:=Int.eq_ofNat_of_zero_le (Int.le_of_lt h)
 have e:Rat.divInt a (m:Int)=mkRat a m:=rfl
 rw [e]
 have h2:=hi_bl a
 have h3:=hi_bl (m:Int)
 rw [Int.natAbs_natCast] at h3
 exact ht_mkRat a m (by omega) (by omega) (by omega)
theorem valM_no{r:RF}(h:fmay r=false):valM r=0:=by
 unfold valM
 rw [dif_neg (by rw [h];decide)]
theorem valM_ht(r:RF):ht (valM r)≤8200:=by
 cases h:fmay r with
 | false=>rw [valM_no h,ht_zero];omega
 | true =>
  obtain⟨q,rfl⟩:=fmay_ex h
  rw [valM_rf h]
  exact fits_ht_le (and_tt h).1
noncomputable def gvm(r:RG):Cx:=⟨valM r.re,valM r.im⟩
theorem gvm_rg{z:Cx}(h:gmay (rg z)=true):gvm (rg z)=z:=by
 obtain⟨h1,h2⟩:=and_tt h
 exact Cx.ext' (valM_rf h1) (valM_rf h2)
noncomputable def mvm(r:RMb):Mb:=⟨gvm r.a,gvm r.b,gvm r.c,gvm r.d,r.t⟩
theorem mvm_ht(r:RMb):(ht (gvm r.a).re≤8200∧ht (gvm r.a).im≤8200)∧(ht (gvm r.b).re≤8200∧ht (gvm r.b).im≤8200)∧(ht (gvm r.c).re≤8200∧ht (gvm r.c).im≤8200)∧(ht (gvm r.d).re≤8200∧ht (gvm r.d).im≤8200) :=
 ⟨⟨valM_ht _,valM_ht _⟩,⟨valM_ht _,valM_ht _⟩,⟨valM_ht _,valM_ht _⟩,⟨valM_ht _,valM_ht _⟩⟩
theorem mvm_rmb{m:Mb}(h:(gmay (rg m.a)&&gmay (rg m.b)&&gmay (rg m.c)&&gmay (rg m.d))=true):mvm (rmb m)=m:=by
 obtain⟨h1,h2,h3,h4⟩:=and_4 h
 show Mb.mk (gvm (rg m.a)) (gvm (rg m.b)) (gvm (rg m.c)) (gvm (rg m.d)) m.t=m
 rw [gvm_rg h1,gvm_rg h2,gvm_rg h3,gvm_rg h4]
theorem form_1{m:Mb}(h:(m.c.sub (Cx.ofInt (1:Int) (0:Int))).zero=true):m.form=true:=by unfold Mb.form;rw [h];rfl
theorem form_2{m:Mb}(h:(m.c.sub (Cx.ofInt (1:Int) (0:Int))).zero=false)(h': m.c.zero=false):m.form=false:=by unfold Mb.form;rw [h,h'];rfl
theorem form_3{m:Mb}(h:(m.c.sub (Cx.ofInt (1:Int) (0:Int))).zero=false)(h': m.c.zero=true):m.form=(m.d.sub (Cx.ofInt (1:Int) (0:Int))).zero:=by unfold Mb.form;rw [h,h'];rfl
end Go.Proofs.YtcboejgklgnifaaGreat
namespace Go.Proofs.YtcboejgklgnifaaGreat
open Go.RowKit Rgn Eng
variable {S:Nat→Prop} {W:World}
theorem eRatF0(r:RF)(p0:wformed r.a=false):Calls Tryz.prog 117 #[rfV r] W (RetV (.pointer none) W):=by
 refine Run.goP (S:=Z0) (Pack.nil.k (rfV r) (rfC r).toList (.s (.agg (ks 0 4)))) Tryz.func117 rfl ?_
 refine Run.cV [.bool (wformed r.a)] kb (fun _ _ _ H=>eFormed r.a) ?_
 refine Run.kn p0 ?_
 exact Run.rV rfl
theorem eRatF1(r:RF)(p0:wformed r.a=true)(p1:wformed r.b=false):Calls Tryz.prog 117 #[rfV r] W (RetV (.pointer none) W):=by
 refine Run.goP (S:=Z0) (Pack.nil.k (rfV r) (rfC r).toList (.s (.agg (ks 0 4)))) Tryz.func117 rfl ?_
 refine Run.cV [.bool (wformed r.a)] kb (fun _ _ _ H=>eFormed r.a) ?_
 refine Run.kn p0 ?_
 refine Run.cV [.bool (wformed r.b)] kb (fun _ _ _ H=>eFormed r.b) ?_
 refine Run.kn p1 ?_
 exact Run.rV rfl
theorem eRatW(g:Int×Int)(p0:fmay (RF.mk (rw g.1) (rw g.2))=false):Calls Tryz.prog 117 #[wwV g] W (RetV (.pointer none) W):=by
 have b1:hi g.1≤8*(bS g.1.natAbs).size+1:=hi_bytes g.1
 have b2:hi g.2≤8*(bS g.2.natAbs).size+1:=hi_bytes g.2
 have b3:=hi_num (Rat.divInt g.1 g.2)
 have b4:=hi_den (Rat.divInt g.1 g.2)
 refine Run.goP (S:=Z0) (Pack.nil.k (wwV g) ((wC g.1).toList++(wC g.2).toList) (.s (.agg (ks 0 4)))) Tryz.func117 rfl ?_
 refine Run.cV [.bool (wformed (rw g.1))] kb (fun _ _ _ H=>eFormed (rw g.1)) ?_
 refine Run.kn (wformed_rw g.1) ?_
 refine Run.cV [.bool (wformed (rw g.2))] kb (fun _ _ _ H=>eFormed (rw g.2)) ?_
 refine Run.kn (wformed_rw g.2) ?_
 rcases Bool.eq_false_or_eq_true (decide (g.2<0)) with c5|c5
 · refine Run.kn c5 ?_
   exact Run.rV rfl
 refine Run.kn c5 ?_
 rcases Bool.eq_false_or_eq_true (decide (g.2.natAbs=0)) with c7|c7
 · refine Run.bi (op:=.eql) (t:=9) (a:=.string (bS g.2.natAbs)) (c:=.string ⟨#[]⟩) [] (cb true) (fun w o ρ u v t' ho hx hy=>ex_seq Tryz.underlying9 _ c7 ho hx hy) ?_
   exact Run.rV rfl
 refine Run.bi (op:=.eql) (t:=9) (a:=.string (bS g.2.natAbs)) (c:=.string ⟨#[]⟩) [] (cb false) (fun w o ρ u v t' ho hx hy=>ex_seq Tryz.underlying9 _ c7 ho hx hy) ?_
 refine Run.sl (bS g.1.natAbs) 9 Tryz.underlying9 ?_
 rcases Bool.eq_false_or_eq_true (decide (1024<(((bS g.1.natAbs).size:Nat):Int))) with c9|c9
 · refine Run.ik .gtr (((bS g.1.natAbs).size:Nat):Int) 1024 true (congrArg some c9) ?_
   exact Run.rV rfl
 refine Run.ik .gtr (((bS g.1.natAbs).size:Nat):Int) 1024 false (congrArg some c9) ?_
 refine Run.sl (bS g.2.natAbs) 9 Tryz.underlying9 ?_
 rcases Bool.eq_false_or_eq_true (decide (1024<(((bS g.2.natAbs).size:Nat):Int))) with c11|c11
 · refine Run.ik .gtr (((bS g.2.natAbs).size:Nat):Int) 1024 true (congrArg some c11) ?_
   exact Run.rV rfl
 refine Run.ik .gtr (((bS g.2.natAbs).size:Nat):Int) 1024 false (congrArg some c11) ?_
 have d5:=of_decide_eq_false c5
 have d7:=of_decide_eq_false c7
 have d9:=of_decide_eq_false c9
 have d11:=of_decide_eq_false c11
 have g0:=ht_dvI (a:=g.1) (show 0<g.2 by omega) (Nat.le_refl (max (hi g.1) (hi g.2)))
 refine Run.dr ?_
 refine RunD.cR spInto (fun _ _ _ H=>eWhole g.1 (by omega)) ?_
 refine RunD.cR spInto (fun _ _ _ H=>eWhole g.2 (by omega)) ?_
 refine RunD.en ?_
 refine Run.cO 1 softRat (fun _ _ _ H=>qSetFrac g.1 g.2 (RatP.blk (H.oz 1)) (IntO.p (anyV (H.f 0))) (IntO.p (anyV (H.f 1))) (by omega) (by omega)) ?_
 refine Run.se 1 ?_
 refine Run.cR spInto (fun _ _ _ H=>qNum (Rat.divInt g.1 g.2) (H.s 1) (by omega)) ?_
 refine Run.cV [.int .i64 (icmp (Rat.divInt g.1 g.2).num g.1)] kb (fun _ _ _ H=>bCmp (Rat.divInt g.1 g.2).num g.1 (IntO.p (H.f 3)) (IntO.p (H.f 0)) (by omega)) ?_
 rcases Bool.eq_false_or_eq_true (icmp (Rat.divInt g.1 g.2).num g.1 != 0) with c20|c20
 · refine Run.ik .neq (icmp (Rat.divInt g.1 g.2).num g.1) 0 true (congrArg some c20) ?_
   exact Run.rV rfl
 refine Run.ik .neq (icmp (Rat.divInt g.1 g.2).num g.1) 0 false (congrArg some c20) ?_
 refine Run.cR spInto (fun _ _ _ H=>qDenom (Rat.divInt g.1 g.2) (H.s 1) (by omega)) ?_
 refine Run.cV [.int .i64 (icmp ((Rat.divInt g.1 g.2).den:Int) g.2)] kb (fun _ _ _ H=>bCmp ((Rat.divInt g.1 g.2).den:Int) g.2 (IntO.p (H.f 4)) (IntO.p (H.f 1)) (by omega)) ?_
 rcases Bool.eq_false_or_eq_true (icmp ((Rat.divInt g.1 g.2).den:Int) g.2 != 0) with c22|c22
 · refine Run.ik .neq (icmp ((Rat.divInt g.1 g.2).den:Int) g.2) 0 true (congrArg some c22) ?_
   exact Run.rV rfl
 exact Bool.noConfusion ((ratw_yes d5 d7 d9 d11 c20 c22).symm.trans p0)
end Go.Proofs.YtcboejgklgnifaaGreat
namespace Go.Proofs.YtcboejgklgnifaaGreat
open Go.RowKit Rgn
theorem eRatF{W:World}(r:RF)(p0:fmay r=false):Calls Tryz.prog 117 #[rfV r] W (RetV (.pointer none) W):=by
 cases h0:wformed r.a with
 | false=>exact eRatF0 r h0
 | true =>
  cases h1:wformed r.b with
  | false=>exact eRatF1 r h0 h1
  | true =>
   obtain⟨a,b⟩:=r
   obtain⟨x,rfl⟩:=wformed_ex h0
   obtain⟨y,rfl⟩:=wformed_ex h1
   exact eRatW (x,y) p0
theorem eRatT{S:Nat→Prop}{W:World}(r:RF)(p0:fmay r=true):Calls Tryz.prog 117 #[rfV r] W (Ret (RatP (valM r)) S W):=by
 obtain⟨q,rfl⟩:=fmay_ex p0
 rw [valM_rf p0]
 exact eRatOk q (and_tt p0).1
theorem retOf{P:Program}{f:FuncId}{args:Array Value}{W:World}{v:Value}{φ:VP}{S:Nat→Prop}(h:Calls P f args W (RetV v W))(hp:∀ w,φ.p (fun k=>S k∨W.heap.size≤k) v w):Calls P f args W (Ret φ S W) :=
 h.mono fun _ w' h=>by
  obtain⟨h1,h2⟩:=h.is
  exact⟨v,h1,hp w', h2⟩
theorem eRatA{S:Nat→Prop}{W:World}(r:RF):Calls Tryz.prog 117 #[rfV r] W (Ret (PtrP 0) S W):=by
 cases h:fmay r with
 | false=>exact retOf (eRatF r h) fun _=>⟨_,rfl⟩
 | true =>
  have g:=eRatT (S:=S) (W:=W) r h
  exact g.mono fun _ _ ⟨v,h1,h2,h3⟩=>⟨v,h1,RatN.ptr (RatP.n h2),h3⟩
end Go.Proofs.YtcboejgklgnifaaGreat
namespace Go.Proofs.YtcboejgklgnifaaGreat
open Go.RowKit Rgn Eng
variable {S:Nat→Prop} {W:World}
theorem eOfR(r:RG):Calls Tryz.prog 116 #[rgV r] W (Ret (VP.tup (NumP (gvm r)) (VP.is (.bool (gmay r)))) S W):=by
 cases c1:fmay r.re with
 | true=>cases c2:fmay r.im with
  | true =>
   refine Run.goP (S:=S) (Pack.nil.k (rgV r) (rgC r).toList (.s (.agg (ks 0 8)))) Tryz.func116 rfl ?_
   refine Run.dr ?_
   refine RunD.cR spRat (fun _ _ _ H=>eRatT r.re c1) ?_
   refine RunD.cR spRat (fun _ _ _ H=>eRatT r.im c2) ?_
   refine RunD.en ?_
   refine Run.np 0 (valM r.re) 129 .neq true (.inr ⟨rfl,rfl⟩) (fun c w=>by kernel_rfl) ?_
   refine Run.np 1 (valM r.im) 129 .neq true (.inr ⟨rfl,rfl⟩) (fun c w=>by kernel_rfl) ?_
   exact Run.rR (fun _ _ _ H=>⟨_,_,rfl,NumP.mk (RatP.n (H.f 0)) (RatP.n (H.f 1)),(by unfold gmay;rw [c1,c2];rfl)⟩)
  | false =>
   refine Run.goP (S:=S) (Pack.nil.k (rgV r) (rgC r).toList (.s (.agg (ks 0 8)))) Tryz.func116 rfl ?_
   refine Run.dr ?_
   refine RunD.cR spRat (fun _ _ _ H=>eRatT r.re c1) ?_
   refine RunD.cV [] (.s (.o (.c (.pointer none)))) (fun _ _ _ H=>eRatF r.im c2) ?_
   refine RunD.en ?_
   refine Run.np 0 (valM r.re) 129 .neq true (.inr ⟨rfl,rfl⟩) (fun c w=>by kernel_rfl) ?_
   refine Run.bi (op:=.neq) (t:=129) (a:=.pointer none) (c:=.pointer none) [] (cb false) (fun w o ρ x y t' ho hx hy=>ex_zn (fun w=>by kernel_rfl) ho hx hy) ?_
   exact Run.rR (fun _ _ _ H=>⟨_,_,rfl,NumP.mk (RatP.n (H.f 0)) (.inl ⟨rfl,valM_no c2⟩),(by unfold gmay;rw [c1,c2];rfl)⟩)
 | false=>cases c2:fmay r.im with
  | true =>
   refine Run.goP (S:=S) (Pack.nil.k (rgV r) (rgC r).toList (.s (.agg (ks 0 8)))) Tryz.func116 rfl ?_
   refine Run.dr ?_
   refine RunD.cV [] (.s (.o (.c (.pointer none)))) (fun _ _ _ H=>eRatF r.re c1) ?_
   refine RunD.cR spRat (fun _ _ _ H=>eRatT r.im c2) ?_
   refine RunD.en ?_
   refine Run.bi (op:=.neq) (t:=129) (a:=.pointer none) (c:=.pointer none) [] (cb false) (fun w o ρ x y t' ho hx hy=>ex_zn (fun w=>by kernel_rfl) ho hx hy) ?_
   exact Run.rR (fun _ _ _ H=>⟨_,_,rfl,NumP.mk (.inl ⟨rfl,valM_no c1⟩) (RatP.n (H.f 0)),(by unfold gmay;rw [c1,c2];rfl)⟩)
  | false =>
   refine Run.goP (S:=S) (Pack.nil.k (rgV r) (rgC r).toList (.s (.agg (ks 0 8)))) Tryz.func116 rfl ?_
   refine Run.dr ?_
   refine RunD.cV [] (.s (.o (.c (.pointer none)))) (fun _ _ _ H=>eRatF r.re c1) ?_
   refine RunD.cV [] (.s (.o (.c (.pointer none)))) (fun _ _ _ H=>eRatF r.im c2) ?_
   refine RunD.en ?_
   refine Run.bi (op:=.neq) (t:=129) (a:=.pointer none) (c:=.pointer none) [] (cb false) (fun w o ρ x y t' ho hx hy=>ex_zn (fun w=>by kernel_rfl) ho hx hy) ?_
   exact Run.rR (fun _ _ _ H=>⟨_,_,rfl,NumP.mk (.inl ⟨rfl,valM_no c1⟩) (.inl ⟨rfl,valM_no c2⟩),(by unfold gmay;rw [c1,c2];rfl)⟩)
theorem eSpotZ(z:Cx)(p0:gfits (rg z)=true):Calls Tryz.prog 104 #[pnV (Pn.mk false z)] W (Ret (VP.tup (PlaceP ⟨false,z⟩) (VP.is (.bool true))) S W):=by
 refine Run.goP (S:=S) (Pack.nil.k (rpnV ⟨false,rg z⟩) (rpnC ⟨false,rg z⟩).toList (.s (.agg (ks 0 9)))) Tryz.func104 rfl ?_
 refine Run.kn (b:=false) (c:=false) rfl ?_
 refine Run.cR spNumK (fun _ _ _ H=>eOf z p0) ?_
 exact Run.rR (fun _ _ _ H=>⟨_,_,rfl,PlaceP.mk (H.f 0) (H.f 1),rfl⟩)
theorem eSpotJ(r:RPn):Calls Tryz.prog 104 #[rpnV r] W (Ret (VP.tup (PlaceJ 0) (VP.is (.bool (pnOk r)))) S W):=by
 refine Run.goP (S:=S) (Pack.nil.k (rpnV r) (rpnC r).toList (.s (.agg (ks 0 9)))) Tryz.func104 rfl ?_
 cases c:r.inf with
 | true =>
  refine Run.kn c ?_
  refine Run.dr ?_
  refine RunD.bi [.bool (decide (r=RPn.mk true rz))] kb (fun _ _ _ o1 o2 _ ho hx hy=>ex_eql_pn (r:=r) (q:=(RPn.mk true rz)) o1 o2 ho hx hy rfl) ?_
  refine RunD.en ?_
  exact Run.rR (fun _ _ _ H=>⟨_,_,rfl,(PlaceJ.mk (show Value.oneCell' (.bool true)=true from rfl) ⟨none,rfl⟩ ⟨none,rfl⟩),(spot_1 c)⟩)
 | false =>
  refine Run.kn c ?_
  refine Run.cR spNumK (fun _ _ _ H=>eOfR r.z) ?_
  exact Run.rR (fun _ _ _ H=>⟨_,_,rfl,(PlaceJ.mk (show Value.oneCell' (.bool false)=true from rfl) (RatN.ptr (q:=(gvm r.z).re) (H.f 0)) (RatN.ptr (q:=(gvm r.z).im) (H.f 1))),(spot_0 c)⟩)
end Go.Proofs.YtcboejgklgnifaaGreat
namespace Go.Proofs.YtcboejgklgnifaaGreat
open Go.RowKit Rgn
variable {S:Nat→Prop} {W:World}
theorem ePlateA(r:RCi)(p0:gmay r.b=false):Calls Tryz.prog 147 #[rciV r] W (RetV (.tuple #[.agg #[.pointer none,.pointer none,.pointer none,.pointer none],.bool false]) W):=by
 have bel:=b0 W
 go_enter Tryz.func147,Tryz.ntmps147
 refine gs 3 (Amb Z0 W) fun _ K1=>?_
 refine .bx rfl (fun H=>H.v 0 (rciV r)) ?_
 refine .al rfl (#[.pointer none,.pointer none,.pointer none,.pointer none]) ?_
 refine .mc rfl ?_
 refine .dk (fun u=>rciV r::sq u 0 3 (us 37)) K1 bel fun u1 w1 D bel=>?_
 obtain⟨b2,E1_0,A2,B2⟩:=D.nw 0
 obtain⟨b3,E1_1,A3,B3⟩:=D.nw 1
 have E1_2:=D.q 2
 have N2_3:=D.n2 0 1 E1_0 E1_1
 clear D
 refine gs 9 (Amb Z0 W) fun _ K4=>?_
 refine .fz rfl 1 4 E1_0 ?_
 refine .lp rfl 0 (rgC r.b) B2 ?_
 refine .cR rfl [] Tryz.func116 (fun H=>⟨_,ar1 (H.g 9 1),eOfR _⟩) ?_
 refine .mn rfl 2 [2] ?_
 refine Go2.fn (i:=4) rfl (G0 rfl) (.val 4 [2,3] (NumP (gvm r.b))) (fun u μ ρ H=>by have e7:=H.r 7 3;have h0:=(H.a 3 rfl);obtain⟨x0,x1,h1,h2⟩:=h0;rw [h1] at e7;exact⟨x0,by clear H;go_simp,SP.tupKeep (by decide) (by decide) h2.1⟩) ?_
 refine .e rfl (V:=.bool (gmay r.b)) (fun H=>by have e7:=H.r 7 3;have h0:=(H.a 3 rfl);obtain⟨x0,x1,h1,h2,h3⟩:=h0;rw [h1] at e7;have h3:x1=.bool (gmay r.b):=h3;subst h3;clear H;go_simp) ?_
 refine .al rfl (#[.pointer none,.pointer none]) ?_
 refine Go2.storeOwn (i:=7) (m:=6) rfl rfl (.head _) (SP.cells 6 [4] (fun u=>#[((u 4).v.cells.getD 0 undef),((u 4).v.cells.getD 1 undef)]) 131 (by intro u u' h;simp [h 4 (by simp)])) (fun u μ ρ b H h0 hB hb=>?_) ?_
 · have e4:=H.r 4 6;have e11:=H.r 11 4
   rw [h0] at e4
   obtain⟨x1,x2,h1,h2,h3⟩:=(H.a 4 rfl)
   have o1:=VP1.ratn h2
   have o2:=VP1.ratn h3
   rw [h1] at e11
   refine⟨μ.setRow b #[x1,x2],ex_store_row 131 _ _ rfl e4 e11 hb (by kernel_rfl) rfl (by simp [o1,o2]),fun g=>⟨b,?_,hB,?_⟩,setRow_only _ _ _⟩
   · rw [upd_other _ _ (by decide)];exact h0
   · rw [setRow_at hb];try simp [upd,h1,Value.cells]
 refine .e rfl (V:=.bool false) (fun H=>by have e12:=H.g 12 5;have k_:=p0;clear H;go_simp<;>first|(simp_all;done)|omega|exact len_gt z0_) ?_
 refine .dk (fun u=>rciV r::sq u1 0 3 (u 6::u 8::U::u 3::sq u 0 3 (u 4::u 5::us 28))) K4 bel fun u2 w2 D bel=>?_
 obtain⟨x5,x6,E2_4,F_x5,F_x6⟩:=(D.rr 4)
 obtain⟨b7,E2_6,A7,B7⟩:=(D.a 7 rfl)
 replace A7:=le2 D.le A7
 have E2_8:=D.q 8
 have N3_7:=D.n1 6 (lt_of B3) E2_6
 replace B2:=D.k B2
 replace B3:=D.k B3
 simp only [Value.cells,E2_4,E2_6] at B7
 replace B7:w2.heap[b7]? = some (.cells #[x5,x6] 131 (0,0)):=B7
 clear D
 refine gd 10 (Amb Z0 W) fun _ K8=>?_
 refine .fz rfl 1 0 E1_0 ?_
 refine .lp rfl 0 (rfC r.a) B2 ?_
 refine .cR rfl [] Tryz.func117 (fun H=>⟨_,ar1 (H.g 14 1),eRatA _⟩) ?_
 refine .lr rfl 4 E2_6 B7 ?_
 refine .fz rfl 1 12 E1_0 ?_
 refine .lp rfl 4 (rfC r.c) B2 ?_
 refine .cR rfl [] Tryz.func117 (fun H=>⟨_,ar1 (H.g 18 5),eRatA _⟩) ?_
 refine Go2.fn (i:=7) rfl (G0 rfl) (SP.fnL 7 [2,6] (fun u=>.agg #[(u 2).v,x5,x6,(u 6).v]) (by intro u u' h;simp [h 2 (by simp),h 6 (by simp)])) (fun u μ ρ H=>⟨_,by have e15:=H.r 15 2;have e16:=H.g 16 3;have e19:=H.r 19 6;obtain⟨x2,h2⟩:=PtrP.isPtr (H.a 2 rfl);obtain⟨x6,h6⟩:=PtrP.isPtr (H.a 6 rfl);clear H;go_simp,SP.fnL_upd (by decide)⟩) ?_
 refine .al rfl (#[.pointer none,.pointer none,.pointer none,.pointer none]) ?_
 refine Go2.storeOwn (i:=9) (m:=8) rfl rfl (.head _) (SP.cells 8 [2,6] (fun u=>#[(u 2).v,x5,x6,(u 6).v]) 133 (by intro u u' h;simp [h 2 (by simp),h 6 (by simp)])) (fun u μ ρ b H h0 hB hb=>?_) ?_
 · have e6:=H.r 6 8;have e20:=H.e 20 7 (by kernel_rfl) (H.a 7 rfl);have o2:=VP1.ptr (H.a 2 rfl);have o_x5:=VP1.ratn F_x5;have o_x6:=VP1.ratn F_x6;have o6:=VP1.ptr (H.a 6 rfl)
   rw [h0] at e6
   refine⟨μ.setRow b #[(u 2).v,x5,x6,(u 6).v],ex_store_row 133 _ _ rfl e6 e20 hb (by kernel_rfl) rfl (by simp [o2,o_x5,o_x6,o6]<;>rfl),fun g=>⟨b,?_,hB,?_⟩,setRow_only _ _ _⟩
   · rw [upd_other _ _ (by decide)];exact h0
   · rw [setRow_at hb];try simp [upd]
 refine .dk (fun u=>rciV r::sq u1 0 3 (u2 6::u2 8::u 8::u2 3::sq u2 0 3 (u2 4::u2 5::sq u 0 8 (us 20)))) K8 bel fun u3 w3 D bel=>?_
 obtain⟨x9,E3_2,F_x9⟩:∃ x_,(u3 2).v=x_∧(PtrP 0).p (Amb Z0 W) x_ w3:=⟨_,rfl,D.rr 2⟩
 obtain⟨x10,E3_6,F_x10⟩:∃ x_,(u3 6).v=x_∧(PtrP 0).p (Amb Z0 W) x_ w3:=⟨_,rfl,D.rr 6⟩
 obtain⟨b11,E3_8,A11,B11⟩:=(D.a 9 rfl)
 replace A11:=le2 D.le A11
 have N3_11:=D.n1 8 (lt_of B3) E3_8
 replace B3:=D.k B3
 simp only [Value.cells,E3_2,E3_6,E3_8] at B11
 replace F_x5:=D.gr (RatN ((gvm r.b).re)) F_x5
 replace F_x6:=D.gr (RatN ((gvm r.b).im)) F_x6
 clear D
 refine wp_seq_k fun _ K12=>?_
 refine gs 12 (Amb Z0 W) fun _ K13=>?_
 refine .mz rfl 5 E2_8 ?_
 refine .e rfl (V:=.bool true) (fun H=>x_not (H.g 21 0)) ?_
 refine .mv rfl 1 ?_
 refine .sk rfl 2 ?_
 refine .sk rfl 2 ?_
 refine .sk rfl 2 ?_
 refine .e rfl (fun H=>x_pkT (H.g 23 2) (H.c _)) ?_
 refine .mv rfl 6 ?_
 refine .sk rfl 7 ?_
 refine .sk rfl 7 ?_
 refine .sk rfl 7 ?_
 refine .e rfl (fun H=>x_pkT (H.g 28 7) (H.c _)) ?_
 refine .dk (fun u=>rciV r::sq u1 0 3 (u2 6::u2 8::u3 8::u2 3::sq u2 0 3 (u2 4::u2 5::sq u3 0 8 (sq u 0 12 (us 8))))) K13 bel fun u4 w4 D bel=>?_
 have E4_11:=D.q 11
 replace B3:=D.k B3
 replace B11:=D.k B11
 replace F_x5:=D.gr (RatN ((gvm r.b).re)) F_x5
 replace F_x6:=D.gr (RatN ((gvm r.b).im)) F_x6
 replace F_x9:=D.gr (PtrP 0) F_x9
 replace F_x10:=D.gr (PtrP 0) F_x10
 clear D
 refine wp_cond_true (by exact E4_11) ?_
 refine gs1 3 (Amb Z0 W) 1 B3 fun _ K14=>?_
 refine .e rfl (V:=.agg #[.pointer none,.pointer none,.pointer none,.pointer none]) (fun H=>by clear H;go_simp) ?_
 refine .s1 rfl B3 (fun H=>⟨H.z 2 E1_1,H.g 33 0⟩) ?_
 refine .mc rfl ?_
 refine .d1 (fun u=>rciV r::u1 0::u1 1::u 2::u2 6::u2 8::u3 8::u2 3::sq u2 0 3 (u2 4::u2 5::sq u3 0 8 (sq u4 0 12 (u 0::us 7)))) K14 bel A3 fun u5 w5 D bel=>?_
 have E5_2:=D.q 2
 replace B3:=D.ol 1
 clear D
 refine wp_ret ?_
 refine ret_ok rfl (by exact results_mix rfl (by exact E1_1) B3 Tryz.underlying133 rfl (by kernel_rfl) (by exact E5_2)) (RetV.mk ?_ bel)
 exact congrArg Ending.returned (rfl)
theorem ePlateB(r:RCi)(p0:gmay r.b=true)(p1:fmay r.a=false):Calls Tryz.prog 147 #[rciV r] W (RetV (.tuple #[.agg #[.pointer none,.pointer none,.pointer none,.pointer none],.bool false]) W):=by
 have bel:=b0 W
 go_enter Tryz.func147,Tryz.ntmps147
 refine gs 3 (Amb Z0 W) fun _ K1=>?_
 refine .bx rfl (fun H=>H.v 0 (rciV r)) ?_
 refine .al rfl (#[.pointer none,.pointer none,.pointer none,.pointer none]) ?_
 refine .mc rfl ?_
 refine .dk (fun u=>rciV r::sq u 0 3 (us 37)) K1 bel fun u1 w1 D bel=>?_
 obtain⟨b2,E1_0,A2,B2⟩:=D.nw 0
 obtain⟨b3,E1_1,A3,B3⟩:=D.nw 1
 have E1_2:=D.q 2
 have N2_3:=D.n2 0 1 E1_0 E1_1
 clear D
 refine gs 9 (Amb Z0 W) fun _ K4=>?_
 refine .fz rfl 1 4 E1_0 ?_
 refine .lp rfl 0 (rgC r.b) B2 ?_
 refine .cR rfl [] Tryz.func116 (fun H=>⟨_,ar1 (H.g 9 1),eOfR _⟩) ?_
 refine .mn rfl 2 [2] ?_
 refine Go2.fn (i:=4) rfl (G0 rfl) (.val 4 [2,3] (NumP (gvm r.b))) (fun u μ ρ H=>by have e7:=H.r 7 3;have h0:=(H.a 3 rfl);obtain⟨x0,x1,h1,h2⟩:=h0;rw [h1] at e7;exact⟨x0,by clear H;go_simp,SP.tupKeep (by decide) (by decide) h2.1⟩) ?_
 refine .e rfl (V:=.bool (gmay r.b)) (fun H=>by have e7:=H.r 7 3;have h0:=(H.a 3 rfl);obtain⟨x0,x1,h1,h2,h3⟩:=h0;rw [h1] at e7;have h3:x1=.bool (gmay r.b):=h3;subst h3;clear H;go_simp) ?_
 refine .al rfl (#[.pointer none,.pointer none]) ?_
 refine Go2.storeOwn (i:=7) (m:=6) rfl rfl (.head _) (SP.cells 6 [4] (fun u=>#[((u 4).v.cells.getD 0 undef),((u 4).v.cells.getD 1 undef)]) 131 (by intro u u' h;simp [h 4 (by simp)])) (fun u μ ρ b H h0 hB hb=>?_) ?_
 · have e4:=H.r 4 6;have e11:=H.r 11 4
   rw [h0] at e4
   obtain⟨x1,x2,h1,h2,h3⟩:=(H.a 4 rfl)
   have o1:=VP1.ratn h2
   have o2:=VP1.ratn h3
   rw [h1] at e11
   refine⟨μ.setRow b #[x1,x2],ex_store_row 131 _ _ rfl e4 e11 hb (by kernel_rfl) rfl (by simp [o1,o2]),fun g=>⟨b,?_,hB,?_⟩,setRow_only _ _ _⟩
   · rw [upd_other _ _ (by decide)];exact h0
   · rw [setRow_at hb];try simp [upd,h1,Value.cells]
 refine .e rfl (V:=.bool true) (fun H=>by have e12:=H.g 12 5;have k_:=p0;clear H;go_simp<;>first|(simp_all;done)|omega|exact len_gt z0_) ?_
 refine .dk (fun u=>rciV r::sq u1 0 3 (u 6::u 8::U::u 3::sq u 0 3 (u 4::u 5::us 28))) K4 bel fun u2 w2 D bel=>?_
 obtain⟨x5,x6,E2_4,F_x5,F_x6⟩:=(D.rr 4)
 obtain⟨b7,E2_6,A7,B7⟩:=(D.a 7 rfl)
 replace A7:=le2 D.le A7
 have E2_8:=D.q 8
 have N3_7:=D.n1 6 (lt_of B3) E2_6
 replace B2:=D.k B2
 replace B3:=D.k B3
 simp only [Value.cells,E2_4,E2_6] at B7
 replace B7:w2.heap[b7]? = some (.cells #[x5,x6] 131 (0,0)):=B7
 clear D
 refine gd 10 (Amb Z0 W) fun _ K8=>?_
 refine .fz rfl 1 0 E1_0 ?_
 refine .lp rfl 0 (rfC r.a) B2 ?_
 refine .cK rfl Tryz.func117 (fun H=>⟨_,ar1 (H.g 14 1),eRatF _ (by first|assumption|omega)⟩) ?_
 refine .lr rfl 4 E2_6 B7 ?_
 refine .fz rfl 1 12 E1_0 ?_
 refine .lp rfl 4 (rfC r.c) B2 ?_
 refine .cR rfl [] Tryz.func117 (fun H=>⟨_,ar1 (H.g 18 5),eRatA _⟩) ?_
 refine Go2.fn (i:=7) rfl (G0 rfl) (SP.fnL 7 [6] (fun u=>.agg #[.pointer none,x5,x6,(u 6).v]) (by intro u u' h;simp [h 6 (by simp)])) (fun u μ ρ H=>⟨_,by have e15:=H.g 15 2;have e16:=H.g 16 3;have e19:=H.r 19 6;obtain⟨x6,h6⟩:=PtrP.isPtr (H.a 6 rfl);clear H;go_simp,SP.fnL_upd (by decide)⟩) ?_
 refine .al rfl (#[.pointer none,.pointer none,.pointer none,.pointer none]) ?_
 refine Go2.storeOwn (i:=9) (m:=8) rfl rfl (.head _) (SP.cells 8 [6] (fun u=>#[.pointer none,x5,x6,(u 6).v]) 133 (by intro u u' h;simp [h 6 (by simp)])) (fun u μ ρ b H h0 hB hb=>?_) ?_
 · have e6:=H.r 6 8;have e20:=H.e 20 7 (by kernel_rfl) (H.a 7 rfl);have o_x5:=VP1.ratn F_x5;have o_x6:=VP1.ratn F_x6;have o6:=VP1.ptr (H.a 6 rfl)
   rw [h0] at e6
   refine⟨μ.setRow b #[.pointer none,x5,x6,(u 6).v],ex_store_row 133 _ _ rfl e6 e20 hb (by kernel_rfl) rfl (by simp [o_x5,o_x6,o6]<;>rfl),fun g=>⟨b,?_,hB,?_⟩,setRow_only _ _ _⟩
   · rw [upd_other _ _ (by decide)];exact h0
   · rw [setRow_at hb];try simp [upd]
 refine .dk (fun u=>rciV r::sq u1 0 3 (u2 6::u2 8::u 8::u2 3::sq u2 0 3 (u2 4::u2 5::sq u 0 8 (us 20)))) K8 bel fun u3 w3 D bel=>?_
 obtain⟨x9,E3_6,F_x9⟩:∃ x_,(u3 6).v=x_∧(PtrP 0).p (Amb Z0 W) x_ w3:=⟨_,rfl,D.rr 6⟩
 obtain⟨b10,E3_8,A10,B10⟩:=(D.a 9 rfl)
 replace A10:=le2 D.le A10
 have N3_10:=D.n1 8 (lt_of B3) E3_8
 replace B3:=D.k B3
 simp only [Value.cells,E3_6,E3_8] at B10
 replace F_x5:=D.gr (RatN ((gvm r.b).re)) F_x5
 replace F_x6:=D.gr (RatN ((gvm r.b).im)) F_x6
 clear D
 refine wp_seq_k fun _ K11=>?_
 refine gs 12 (Amb Z0 W) fun _ K12=>?_
 refine .mz rfl 5 E2_8 ?_
 refine .e rfl (V:=.bool false) (fun H=>x_not (H.g 21 0)) ?_
 refine .mv rfl 1 ?_
 refine .fz rfl 6 0 E3_8 ?_ (hg:=gq 2 rfl)
 refine .lc rfl 3 B10 ?_ (V:=.pointer none) (hg:=gq 2 rfl)
 refine .e rfl (V:=.bool true) (fun H=>x_nnE (H.g 25 4) (H.c _)) ?_ (hg:=gq 2 rfl)
 refine .e rfl (fun H=>x_pkF (H.g 23 2) (H.g 26 5)) ?_
 refine .mv rfl 6 ?_
 refine .sk rfl 7 ?_
 refine .sk rfl 7 ?_
 refine .sk rfl 7 ?_
 refine .e rfl (fun H=>x_pkT (H.g 28 7) (H.c _)) ?_
 refine .dk (fun u=>rciV r::sq u1 0 3 (u2 6::u2 8::u3 8::u2 3::sq u2 0 3 (u2 4::u2 5::sq u3 0 8 (sq u 0 12 (us 8))))) K12 bel fun u4 w4 D bel=>?_
 have E4_11:=D.q 11
 replace B3:=D.k B3
 replace B10:=D.k B10
 replace F_x5:=D.gr (RatN ((gvm r.b).re)) F_x5
 replace F_x6:=D.gr (RatN ((gvm r.b).im)) F_x6
 replace F_x9:=D.gr (PtrP 0) F_x9
 clear D
 refine wp_cond_true (by exact E4_11) ?_
 refine gs1 3 (Amb Z0 W) 1 B3 fun _ K13=>?_
 refine .e rfl (V:=.agg #[.pointer none,.pointer none,.pointer none,.pointer none]) (fun H=>by clear H;go_simp) ?_
 refine .s1 rfl B3 (fun H=>⟨H.z 2 E1_1,H.g 33 0⟩) ?_
 refine .mc rfl ?_
 refine .d1 (fun u=>rciV r::u1 0::u1 1::u 2::u2 6::u2 8::u3 8::u2 3::sq u2 0 3 (u2 4::u2 5::sq u3 0 8 (sq u4 0 12 (u 0::us 7)))) K13 bel A3 fun u5 w5 D bel=>?_
 have E5_2:=D.q 2
 replace B3:=D.ol 1
 clear D
 refine wp_ret ?_
 refine ret_ok rfl (by exact results_mix rfl (by exact E1_1) B3 Tryz.underlying133 rfl (by kernel_rfl) (by exact E5_2)) (RetV.mk ?_ bel)
 exact congrArg Ending.returned (rfl)
theorem ePlateC(r:RCi)(p0:gmay r.b=true)(p1:fmay r.a=true)(p2:fmay r.c=false):Calls Tryz.prog 147 #[rciV r] W (RetV (.tuple #[.agg #[.pointer none,.pointer none,.pointer none,.pointer none],.bool false]) W):=by
 have bel:=b0 W
 go_enter Tryz.func147,Tryz.ntmps147
 refine gs 3 (Amb Z0 W) fun _ K1=>?_
 refine .bx rfl (fun H=>H.v 0 (rciV r)) ?_
 refine .al rfl (#[.pointer none,.pointer none,.pointer none,.pointer none]) ?_
 refine .mc rfl ?_
 refine .dk (fun u=>rciV r::sq u 0 3 (us 37)) K1 bel fun u1 w1 D bel=>?_
 obtain⟨b2,E1_0,A2,B2⟩:=D.nw 0
 obtain⟨b3,E1_1,A3,B3⟩:=D.nw 1
 have E1_2:=D.q 2
 have N2_3:=D.n2 0 1 E1_0 E1_1
 clear D
 refine gs 9 (Amb Z0 W) fun _ K4=>?_
 refine .fz rfl 1 4 E1_0 ?_
 refine .lp rfl 0 (rgC r.b) B2 ?_
 refine .cR rfl [] Tryz.func116 (fun H=>⟨_,ar1 (H.g 9 1),eOfR _⟩) ?_
 refine .mn rfl 2 [2] ?_
 refine Go2.fn (i:=4) rfl (G0 rfl) (.val 4 [2,3] (NumP (gvm r.b))) (fun u μ ρ H=>by have e7:=H.r 7 3;have h0:=(H.a 3 rfl);obtain⟨x0,x1,h1,h2⟩:=h0;rw [h1] at e7;exact⟨x0,by clear H;go_simp,SP.tupKeep (by decide) (by decide) h2.1⟩) ?_
 refine .e rfl (V:=.bool (gmay r.b)) (fun H=>by have e7:=H.r 7 3;have h0:=(H.a 3 rfl);obtain⟨x0,x1,h1,h2,h3⟩:=h0;rw [h1] at e7;have h3:x1=.bool (gmay r.b):=h3;subst h3;clear H;go_simp) ?_
 refine .al rfl (#[.pointer none,.pointer none]) ?_
 refine Go2.storeOwn (i:=7) (m:=6) rfl rfl (.head _) (SP.cells 6 [4] (fun u=>#[((u 4).v.cells.getD 0 undef),((u 4).v.cells.getD 1 undef)]) 131 (by intro u u' h;simp [h 4 (by simp)])) (fun u μ ρ b H h0 hB hb=>?_) ?_
 · have e4:=H.r 4 6;have e11:=H.r 11 4
   rw [h0] at e4
   obtain⟨x1,x2,h1,h2,h3⟩:=(H.a 4 rfl)
   have o1:=VP1.ratn h2
   have o2:=VP1.ratn h3
   rw [h1] at e11
   refine⟨μ.setRow b #[x1,x2],ex_store_row 131 _ _ rfl e4 e11 hb (by kernel_rfl) rfl (by simp [o1,o2]),fun g=>⟨b,?_,hB,?_⟩,setRow_only _ _ _⟩
   · rw [upd_other _ _ (by decide)];exact h0
   · rw [setRow_at hb];try simp [upd,h1,Value.cells]
 refine .e rfl (V:=.bool true) (fun H=>by have e12:=H.g 12 5;have k_:=p0;clear H;go_simp<;>first|(simp_all;done)|omega|exact len_gt z0_) ?_
 refine .dk (fun u=>rciV r::sq u1 0 3 (u 6::u 8::U::u 3::sq u 0 3 (u 4::u 5::us 28))) K4 bel fun u2 w2 D bel=>?_
 obtain⟨x5,x6,E2_4,F_x5,F_x6⟩:=(D.rr 4)
 obtain⟨b7,E2_6,A7,B7⟩:=(D.a 7 rfl)
 replace A7:=le2 D.le A7
 have E2_8:=D.q 8
 have N3_7:=D.n1 6 (lt_of B3) E2_6
 replace B2:=D.k B2
 replace B3:=D.k B3
 simp only [Value.cells,E2_4,E2_6] at B7
 replace B7:w2.heap[b7]? = some (.cells #[x5,x6] 131 (0,0)):=B7
 clear D
 refine gd 10 (Amb Z0 W) fun _ K8=>?_
 refine .fz rfl 1 0 E1_0 ?_
 refine .lp rfl 0 (rfC r.a) B2 ?_
 refine .cR rfl [] Tryz.func117 (fun H=>⟨_,ar1 (H.g 14 1),eRatT _ (by first|assumption|omega)⟩) ?_
 refine .lr rfl 4 E2_6 B7 ?_
 refine .fz rfl 1 12 E1_0 ?_
 refine .lp rfl 4 (rfC r.c) B2 ?_
 refine .cK rfl Tryz.func117 (fun H=>⟨_,ar1 (H.g 18 5),eRatF _ (by first|assumption|omega)⟩) ?_
 refine Go2.fn (i:=7) rfl (G0 rfl) (SP.fnL 7 [2] (fun u=>.agg #[(u 2).v,x5,x6,.pointer none]) (by intro u u' h;simp [h 2 (by simp)])) (fun u μ ρ H=>⟨_,by have e15:=H.r 15 2;have e16:=H.g 16 3;have e19:=H.g 19 6;obtain⟨x2,h2⟩:=RatP.isPtr (H.a 2 rfl);clear H;go_simp,SP.fnL_upd (by decide)⟩) ?_
 refine .al rfl (#[.pointer none,.pointer none,.pointer none,.pointer none]) ?_
 refine Go2.storeOwn (i:=9) (m:=8) rfl rfl (.head _) (SP.cells 8 [2] (fun u=>#[(u 2).v,x5,x6,.pointer none]) 133 (by intro u u' h;simp [h 2 (by simp)])) (fun u μ ρ b H h0 hB hb=>?_) ?_
 · have e6:=H.r 6 8;have e20:=H.e 20 7 (by kernel_rfl) (H.a 7 rfl);have o2:=VP1.rat (H.a 2 rfl);have o_x5:=VP1.ratn F_x5;have o_x6:=VP1.ratn F_x6
   rw [h0] at e6
   refine⟨μ.setRow b #[(u 2).v,x5,x6,.pointer none],ex_store_row 133 _ _ rfl e6 e20 hb (by kernel_rfl) rfl (by simp [o2,o_x5,o_x6]<;>rfl),fun g=>⟨b,?_,hB,?_⟩,setRow_only _ _ _⟩
   · rw [upd_other _ _ (by decide)];exact h0
   · rw [setRow_at hb];try simp [upd]
 refine .dk (fun u=>rciV r::sq u1 0 3 (u2 6::u2 8::u 8::u2 3::sq u2 0 3 (u2 4::u2 5::sq u 0 8 (us 20)))) K8 bel fun u3 w3 D bel=>?_
 obtain⟨b9,E3_2,L9,F9⟩:=RatP.elim (D.rr 2)
 obtain⟨b10,E3_8,A10,B10⟩:=(D.a 9 rfl)
 replace A10:=le2 D.le A10
 have N3_10:=D.n1 8 (lt_of B3) E3_8
 replace B3:=D.k B3
 simp only [Value.cells,E3_2,E3_8] at B10
 replace F_x5:=D.gr (RatN ((gvm r.b).re)) F_x5
 replace F_x6:=D.gr (RatN ((gvm r.b).im)) F_x6
 clear D
 refine wp_seq_k fun _ K11=>?_
 refine gs 12 (Amb Z0 W) fun _ K12=>?_
 refine .mz rfl 5 E2_8 ?_
 refine .e rfl (V:=.bool false) (fun H=>x_not (H.g 21 0)) ?_
 refine .mv rfl 1 ?_
 refine .fz rfl 6 0 E3_8 ?_ (hg:=gq 2 rfl)
 refine .lc rfl 3 B10 ?_ (V:=pt b9) (hg:=gq 2 rfl)
 refine .e rfl (V:=.bool false) (fun H=>x_pnE (H.g 25 4) (H.c _)) ?_ (hg:=gq 2 rfl)
 refine .e rfl (fun H=>x_pkF (H.g 23 2) (H.g 26 5)) ?_
 refine .mv rfl 6 ?_
 refine .fz rfl 6 3 E3_8 ?_ (hg:=gq 7 rfl)
 refine .lc rfl 8 B10 ?_ (V:=.pointer none) (hg:=gq 7 rfl)
 refine .e rfl (V:=.bool true) (fun H=>x_nnE (H.g 30 9) (H.c _)) ?_ (hg:=gq 7 rfl)
 refine .e rfl (fun H=>x_pkF (H.g 28 7) (H.g 31 10)) ?_
 refine .dk (fun u=>rciV r::sq u1 0 3 (u2 6::u2 8::u3 8::u2 3::sq u2 0 3 (u2 4::u2 5::sq u3 0 8 (sq u 0 12 (us 8))))) K12 bel fun u4 w4 D bel=>?_
 have E4_11:=D.q 11
 replace B3:=D.k B3
 replace B10:=D.k B10
 replace F9:=D.o L9 F9
 replace F_x5:=D.gr (RatN ((gvm r.b).re)) F_x5
 replace F_x6:=D.gr (RatN ((gvm r.b).im)) F_x6
 clear D
 refine wp_cond_true (by exact E4_11) ?_
 refine gs1 3 (Amb Z0 W) 1 B3 fun _ K13=>?_
 refine .e rfl (V:=.agg #[.pointer none,.pointer none,.pointer none,.pointer none]) (fun H=>by clear H;go_simp) ?_
 refine .s1 rfl B3 (fun H=>⟨H.z 2 E1_1,H.g 33 0⟩) ?_
 refine .mc rfl ?_
 refine .d1 (fun u=>rciV r::u1 0::u1 1::u 2::u2 6::u2 8::u3 8::u2 3::sq u2 0 3 (u2 4::u2 5::sq u3 0 8 (sq u4 0 12 (u 0::us 7)))) K13 bel A3 fun u5 w5 D bel=>?_
 have E5_2:=D.q 2
 replace B3:=D.ol 1
 clear D
 refine wp_ret ?_
 refine ret_ok rfl (by exact results_mix rfl (by exact E1_1) B3 Tryz.underlying133 rfl (by kernel_rfl) (by exact E5_2)) (RetV.mk ?_ bel)
 exact congrArg Ending.returned (rfl)
theorem eSpotI :
  Calls Tryz.prog 104 #[rpnV (RPn.mk true rz)] W (Ret (VP.tup (PlaceP ⟨true,⟨0,0⟩⟩) (VP.is (.bool true))) S W):=by
 have bel:=b0 W
 go_enter Tryz.func104,Tryz.ntmps104
 refine gs 3 (Amb S W) fun _ K1=>?_
 refine .bx rfl (fun H=>H.v 0 (rpnV (RPn.mk true rz))) ?_
 refine .al rfl (#[.bool false,.pointer none,.pointer none]) ?_
 refine .mc rfl ?_
 refine .dk (fun u=>rpnV (RPn.mk true rz)::sq u 0 3 (us 17)) K1 bel fun u1 w1 D bel=>?_
 obtain⟨b2,E1_0,A2,B2⟩:=D.nw 0
 obtain⟨b3,E1_1,A3,B3⟩:=D.nw 1
 have E1_2:=D.q 2
 have N2_3:=D.n2 0 1 E1_0 E1_1
 clear D
 refine wp_seq_k fun _ K4=>?_
 refine gs 2 (Amb S W) fun _ K5=>?_
 refine .fz rfl 1 0 E1_0 ?_
 refine .lc rfl 0 B2 ?_ (V:=.bool true)
 refine .dk (fun u=>rpnV (RPn.mk true rz)::sq u1 0 3 (U::U::u 0::u 1::us 13)) K5 bel fun u2 w2 D bel=>?_
 have E2_1:=D.q 1
 replace B2:=D.k B2
 replace B3:=D.k B3
 clear D
 refine wp_cond_true (by exact E2_1) ?_
 refine gd1 6 (Amb S W) 4 B3 fun _ K6=>?_
 refine .e rfl (V:=.agg #[.bool true,.pointer none,.pointer none]) (fun H=>by have k0:=H.c (.bool true);clear H;go_simp) ?_
 refine .e rfl (fun H=>x_ldr (H.z 1 E1_0) (H.b1 B2 (Ne.symm N2_3))) ?_
 refine .e rfl (V:=rpnV (RPn.mk true rz)) (fun H=>by have k0:=H.c (.bool true);clear H;go_simp) ?_
 refine .e rfl (V:=.bool true) (fun H=>ex_eql_pn (r:=RPn.mk true rz) (q:=RPn.mk true rz) _ _ rfl (H.g 9 1) (H.g 10 2) (rfl.trans (decide_eq_true rfl))) ?_
 refine .s1 rfl B3 (fun H=>⟨H.z 2 E1_1,H.g 8 0⟩) ?_
 refine .mv rfl 3 ?_
 refine .d1 (fun u=>rpnV (RPn.mk true rz)::u1 0::u1 1::u 5::U::U::u2 0::u2 1::sq u 0 4 (us 9)) K6 bel A3 fun u3 w3 D bel=>?_
 have E3_5:=D.q 5
 replace B3:=D.ol 4
 clear D
 refine wp_ret ?_
 refine ret_ok rfl (by exact results_mix rfl (by exact E1_1) B3 Tryz.underlying176 rfl (by kernel_rfl) (by exact E3_5)) ⟨_,rfl,?_,bel⟩
 exact⟨_,_,rfl,(PlaceP.mk (.inl ⟨rfl,rfl⟩) (.inl ⟨rfl,rfl⟩)),(rfl)⟩
end Go.Proofs.YtcboejgklgnifaaGreat
namespace Go.Proofs.YtcboejgklgnifaaGreat
open Go.RowKit Rgn Eng
variable {S:Nat→Prop} {W:World}
theorem ePlateY(c:Ci)(p0:cifits (rci c)=true):Calls Tryz.prog 147 #[ciV c] W (Ret (VP.tup (RingP c) (VP.is (.bool (decide (c.dot c=-1))))) S W):=by
 have f:=cifits_ht p0
 have h1:=dot_ht c c
 have z2:ht (Rat.divInt (-1:Int) (1:Int))=2:=by decide
 refine Run.goP (S:=S) (Pack.nil.k (ciV c) (ciC c).toList (.s (.agg (ks 0 16)))) Tryz.func147 rfl ?_
 refine Run.cR (spNumC true) (fun _ _ _ H=>eOf c.b (by first|omega|exact (and_3 p0).1|exact (and_3 p0).2.1|exact (and_3 p0).2.2|exact pos_flat p1)) ?_
 refine Run.dr ?_
 refine RunD.cR spRat (fun _ _ _ H=>eRatOk c.a (by first|omega|exact (and_3 p0).1|exact (and_3 p0).2.1|exact (and_3 p0).2.2|exact pos_flat p1)) ?_
 refine RunD.cR spRat (fun _ _ _ H=>eRatOk c.c (by first|omega|exact (and_3 p0).1|exact (and_3 p0).2.1|exact (and_3 p0).2.2|exact pos_flat p1)) ?_
 refine RunD.en ?_
 refine Run.np 2 (c.a) 129 .eql false (.inl ⟨rfl,rfl⟩) (fun c w=>by kernel_rfl) ?_
 refine Run.np 3 (c.c) 129 .eql false (.inl ⟨rfl,rfl⟩) (fun c w=>by kernel_rfl) ?_
 refine Run.dr ?_
 refine RunD.cR spRat (fun _ _ _ H=>dsBy c c (RingP.mk (H.f 2) (H.f 0) (H.f 1) (H.f 3)) (RingP.mk (H.f 2) (H.f 0) (H.f 1) (H.f 3)) (by first|omega|exact (and_3 p0).1|exact (and_3 p0).2.1|exact (and_3 p0).2.2|exact pos_flat p1)) ?_
 refine RunD.cR spRat (fun _ _ _ H=>qNewRat (-1) 1 (by decide) (by decide) (by decide) (by decide) (by decide)) ?_
 refine RunD.cV [.int .i64 (icmp ((c.dot c).num*((Rat.divInt (-1) 1).den:Int)) ((Rat.divInt (-1) 1).num*((c.dot c).den:Int)))] kb (fun _ _ _ H=>qCmp (c.dot c) (Rat.divInt (-1) 1) (H.f 4) (H.f 5) (by first|omega|exact (and_3 p0).1|exact (and_3 p0).2.1|exact (and_3 p0).2.2|exact pos_flat p1)) ?_
 refine RunD.bi [.bool ((icmp ((c.dot c).num*((Rat.divInt (-1) 1).den:Int)) ((Rat.divInt (-1) 1).num*((c.dot c).den:Int))) == 0)] kb (fun _ _ _ o1 o2 _ ho hx hy=>ex_icmp .eql 3 (icmp ((c.dot c).num*((Rat.divInt (-1) 1).den:Int)) ((Rat.divInt (-1) 1).num*((c.dot c).den:Int))) 0 (kk:=.i64) rfl ho hx hy) ?_
 refine RunD.en ?_
 exact Run.rR (fun _ _ _ H=>⟨_,_,rfl,(RingP.mk (H.f 2) (H.f 0) (H.f 1) (H.f 3)),plate_eq c⟩)
end Go.Proofs.YtcboejgklgnifaaGreat
namespace Go.Proofs.YtcboejgklgnifaaGreat
open Go.RowKit Rgn
theorem tupJ{φ:VP}{S:Nat→Prop}{w:World}{v:Value}(h:φ.p S v w):(VP.tup φ (VP.is (.bool false))).p S (.tuple #[v,.bool false]) w:=⟨_,_,rfl,h,rfl⟩
theorem ringJ0{S:Nat→Prop}{w:World}:(RingJ 0).p S (.agg #[.pointer none,.pointer none,.pointer none,.pointer none]) w:=⟨_,_,_,_,rfl,⟨_,rfl⟩,⟨_,rfl⟩,⟨_,rfl⟩,⟨_,rfl⟩⟩
theorem toJ{P:Program}{f:FuncId}{args:Array Value}{W:World}{φ ψ:VP}{b:Bool}{S:Nat→Prop}(h:Calls P f args W (Ret (VP.tup φ (VP.is (.bool b))) S W))(hb:b=false)(hj:∀ v w (S:Nat→Prop),φ.p S v w→ψ.p S v w):Calls P f args W (Ret (VP.tup ψ (VP.is (.bool false))) S W):=by
 subst hb
 exact h.mono fun _ _ ⟨v,h1,⟨a,b,h2,h3,h4⟩,h5⟩=>⟨v,h1,⟨a,b,h2,hj _ _ _ h3,h4⟩,h5⟩
theorem ePlateO{S:Nat→Prop}{W:World}(c:Ci)(p0:dsOk (rci c)=true):Calls Tryz.prog 147 #[ciV c] W (Ret (VP.tup (RingP c) (VP.is (.bool true))) S W):=by
 obtain⟨h1,h2⟩:=dsOk_c p0
 have h:=ePlateY (S:=S) (W:=W) c h1
 rw [decide_eq_true h2] at h
 exact h
theorem ePlateN{S:Nat→Prop}{W:World}(r:RCi)(p0:dsOk r=false):Calls Tryz.prog 147 #[rciV r] W (Ret (VP.tup (RingJ 0) (VP.is (.bool false))) S W):=by
 cases h1:gmay r.b with
 | false=>exact retOf (ePlateA r h1) fun _=>tupJ ringJ0
 | true =>
  cases h2:fmay r.a with
  | false=>exact retOf (ePlateB r h1 h2) fun _=>tupJ ringJ0
  | true =>
   cases h3:fmay r.c with
   | false=>exact retOf (ePlateC r h1 h2 h3) fun _=>tupJ ringJ0
   | true =>
    obtain⟨c,rfl,hf⟩:=ci_of h2 h1 h3
    refine toJ (ePlateY c hf) (decide_eq_false fun e=>?_) fun _ _ _ h=>RingP.j h
    exact dsOk_no p0 ⟨c,rfl,hf,e⟩
end Go.Proofs.YtcboejgklgnifaaGreat
namespace Go.Proofs.YtcboejgklgnifaaGreat
open Go.RowKit Rgn Eng
variable {S:Nat→Prop} {W:World}
theorem eOpenR(r:RMb):Calls Tryz.prog 146 #[rmbV r] W (RetAnd (RetIf (((((gmay r.a)&&(gmay r.b))&&(gmay r.c))&&(gmay r.d))=false) (RetV (.tuple #[.agg #[.pointer none,.pointer none,.pointer none,.pointer none,.pointer none,.pointer none,.pointer none,.pointer none,.bool false],.bool false]) W)) (RetAnd (RetIf (((((gmay r.a)&&(gmay r.b))&&(gmay r.c))&&(gmay r.d))=true∧(((Mb.mk (gvm r.a) (gvm r.b) (gvm r.c) (gvm r.d) r.t).det).zero)=true) (RetV (.tuple #[.agg #[.pointer none,.pointer none,.pointer none,.pointer none,.pointer none,.pointer none,.pointer none,.pointer none,.bool false],.bool false]) W)) (RetIf (((((gmay r.a)&&(gmay r.b))&&(gmay r.c))&&(gmay r.d))=true∧(((Mb.mk (gvm r.a) (gvm r.b) (gvm r.c) (gvm r.d) r.t).det).zero)=false) (Ret (VP.tup (MatP (mvm r)) (VP.is (.bool (mvm r).form))) S W)))):=by
 have f:=mvm_ht r
 have o1:ht (Cx.ofInt (1:Int) (0:Int)).re=2:=by decide
 have o2:ht (Cx.ofInt (1:Int) (0:Int)).im=2:=by decide
 refine Run.goP (S:=S) (Pack.nil.k (rmbV r) (rmbC r).toList (.s (.agg (ks 0 33)))) Tryz.func146 rfl ?_
 refine Run.cR spNumK (fun β ℓ w H=>eOfR r.a) ?_
 refine Run.cR spNumK (fun β ℓ w H=>eOfR r.b) ?_
 refine Run.an (gmay r.a) (gmay r.b) ?_
 refine Run.cR spNumK (fun β ℓ w H=>eOfR r.c) ?_
 refine Run.an (gmay r.a&&gmay r.b) (gmay r.c) ?_
 refine Run.cR spNumK (fun β ℓ w H=>eOfR r.d) ?_
 refine Run.an (gmay r.a&&gmay r.b&&gmay r.c) (gmay r.d) ?_
 rcases Bool.eq_false_or_eq_true (gmay r.a&&gmay r.b&&gmay r.c&&gmay r.d) with h1|h1
 · refine Run.kn h1 ?_
   refine Run.cR spNum (fun β ℓ w H=>mtDet (Mb.mk (gvm r.a) (gvm r.b) (gvm r.c) (gvm r.d) r.t) (MatP.mk (H.f 0) (H.f 1) (H.f 2) (H.f 3) (H.f 4) (H.f 5) (H.f 6) (H.f 7)) (by dsimp only at *;omega)) ?_
   refine Run.cV [.bool (Mb.mk (gvm r.a) (gvm r.b) (gvm r.c) (gvm r.d) r.t).det.zero] kb (fun β ℓ w H=>eZero (Mb.mk (gvm r.a) (gvm r.b) (gvm r.c) (gvm r.d) r.t).det (NumP.mk (H.f 8) (H.f 9))) ?_
   rcases Bool.eq_false_or_eq_true (Mb.mk (gvm r.a) (gvm r.b) (gvm r.c) (gvm r.d) r.t).det.zero with h2|h2
   · refine Run.kn h2 ?_
     exact Run.fin (fun β ℓ w I=>⟨fun c=>absurd c (by simp [h1]),fun _=>RetV.mk rfl I.bel,fun c=>absurd c.2 (by simp [h2])⟩)
   · refine Run.kn h2 ?_
     refine Run.cR spNum (fun β ℓ w H=>eInt 1 0 (by decide) (by decide) (by decide) (by decide)) ?_
     have fin:∀ {b:Bool} {β:Nat→Nat} {ℓ:Nat→Value} {w:World},b=(mvm r).form→(RatN (mvm r).a.re).p (Amb S W) (ℓ 0) w→(RatN (mvm r).a.im).p (Amb S W) (ℓ 1) w→(RatN (mvm r).b.re).p (Amb S W) (ℓ 2) w→(RatN (mvm r).b.im).p (Amb S W) (ℓ 3) w→(RatN (mvm r).c.re).p (Amb S W) (ℓ 4) w→(RatN (mvm r).c.im).p (Amb S W) (ℓ 5) w→(RatN (mvm r).d.re).p (Amb S W) (ℓ 6) w→(RatN (mvm r).d.im).p (Amb S W) (ℓ 7) w→Below W.heap.size W w →
         RetAnd (RetIf ((gmay r.a&&gmay r.b&&gmay r.c&&gmay r.d)=false) (RetV (.tuple #[.agg #[.pointer none,.pointer none,.pointer none,.pointer none,.pointer none,.pointer none,.pointer none,.pointer none,.bool false],.bool false]) W)) (RetAnd (RetIf ((gmay r.a&&gmay r.b&&gmay r.c&&gmay r.d)=true∧(Mb.mk (gvm r.a) (gvm r.b) (gvm r.c) (gvm r.d) r.t).det.zero=true) (RetV (.tuple #[.agg #[.pointer none,.pointer none,.pointer none,.pointer none,.pointer none,.pointer none,.pointer none,.pointer none,.bool false],.bool false]) W)) (RetIf ((gmay r.a&&gmay r.b&&gmay r.c&&gmay r.d)=true∧(Mb.mk (gvm r.a) (gvm r.b) (gvm r.c) (gvm r.d) r.t).det.zero=false) (Ret (VP.tup (MatP (mvm r)) (VP.is (.bool (mvm r).form))) S W))) (.returned (.tuple #[.agg #[ℓ 0,ℓ 1,ℓ 2,ℓ 3,ℓ 4,ℓ 5,ℓ 6,ℓ 7,.bool r.t],.bool b])) w :=
       fun e g0 g1 g2 g3 g4 g5 g6 g7 bel=>⟨fun c=>absurd c (by simp [h1]),fun c=>absurd c.2 (by simp [h2]),fun _=>⟨_,rfl,⟨_,_,rfl,MatP.mk g0 g1 g2 g3 g4 g5 g6 g7,congrArg Value.bool e⟩,bel⟩⟩
     rcases Bool.eq_false_or_eq_true (((gvm r.c).sub (Cx.ofInt (1:Int) (0:Int))).zero) with c1|c1
     · refine Run.dr ?_
       refine RunD.cV [] (cb true) (fun β ℓ w H=>eSame (gvm r.c) (Cx.ofInt 1 0) (NumP.mk (H.f 4) (H.f 5)) (NumP.mk (H.f 10) (H.f 11)) (by dsimp only at *;omega)) ?_ (hV:=fun _ _=>congrArg Value.bool c1)
       refine RunD.en ?_
       exact Run.fin (fun β ℓ w H=>fin (β:=β) (form_1 (m:=mvm r) c1).symm (H.f 0) (H.f 1) (H.f 2) (H.f 3) (H.f 4) (H.f 5) (H.f 6) (H.f 7) H.bel)
     · rcases Bool.eq_false_or_eq_true ((gvm r.c).zero) with c2|c2
       · refine Run.dr ?_
         refine RunD.cV [] (cb false) (fun β ℓ w H=>eSame (gvm r.c) (Cx.ofInt 1 0) (NumP.mk (H.f 4) (H.f 5)) (NumP.mk (H.f 10) (H.f 11)) (by dsimp only at *;omega)) ?_ (hV:=fun _ _=>congrArg Value.bool c1)
         refine RunD.cV [] (cb true) (fun β ℓ w H=>eZero (gvm r.c) (NumP.mk (H.f 4) (H.f 5))) ?_ (hV:=fun _ _=>congrArg Value.bool c2)
         refine RunD.cV [.bool ((mvm r).d.sub (Cx.ofInt 1 0)).zero] kb (fun β ℓ w H=>eSame (gvm r.d) (Cx.ofInt 1 0) (NumP.mk (H.f 6) (H.f 7)) (NumP.mk (H.f 10) (H.f 11)) (by dsimp only at *;omega)) ?_
         refine RunD.en ?_
         exact Run.fin (fun β ℓ w H=>fin (β:=β) (form_3 (m:=mvm r) c1 c2).symm (H.f 0) (H.f 1) (H.f 2) (H.f 3) (H.f 4) (H.f 5) (H.f 6) (H.f 7) H.bel)
       · refine Run.dr ?_
         refine RunD.cV [] (cb false) (fun β ℓ w H=>eSame (gvm r.c) (Cx.ofInt 1 0) (NumP.mk (H.f 4) (H.f 5)) (NumP.mk (H.f 10) (H.f 11)) (by dsimp only at *;omega)) ?_ (hV:=fun _ _=>congrArg Value.bool c1)
         refine RunD.cV [] (cb false) (fun β ℓ w H=>eZero (gvm r.c) (NumP.mk (H.f 4) (H.f 5))) ?_ (hV:=fun _ _=>congrArg Value.bool c2)
         refine RunD.en ?_
         exact Run.fin (fun β ℓ w H=>fin (β:=β) (form_2 (m:=mvm r) c1 c2).symm (H.f 0) (H.f 1) (H.f 2) (H.f 3) (H.f 4) (H.f 5) (H.f 6) (H.f 7) H.bel)
 · refine Run.kn h1 ?_
   exact Run.fin (fun β ℓ w I=>⟨fun _=>RetV.mk rfl I.bel,fun c=>absurd c.1 (by simp [h1]),fun c=>absurd c.1 (by simp [h1])⟩)
end Go.Proofs.YtcboejgklgnifaaGreat
namespace Go.Proofs.YtcboejgklgnifaaGreat
open Go.RowKit Rgn
theorem cmul_comm(x y:Cx):x.mul y=y.mul x:=Cx.ext' (by show x.re*y.re-x.im*y.im=y.re*x.re-y.im*x.im;grind) (by show x.re*y.im+x.im*y.re=y.re*x.im+y.im*x.re;grind)
section
variable {m:Mb} {k:Ci} {q:Rat}
end
theorem pos_iff{c:Ci}:c.pos=true↔0<c.pow:=by
 unfold Ci.pos
 rw [Bool.not_eq_true', decide_eq_false_iff_not]
 have h:=sign3 c.pow.num
 have h1:0≤c.pow.num↔0≤c.pow:=Rat.num_nonneg
 have h2:c.pow.num=0↔c.pow=0:=Rat.num_eq_zero
 have h3:0≤c.pow↔0<c.pow∨0=c.pow:=Rat.le_iff_lt_or_eq
 constructor
 ·intro hp
  have h4:0≤c.pow:=h1.1 (by omega)
  rcases h3.1 h4 with h5|h5
  ·exact h5
  ·have:=h2.2 h5.symm;omega
 ·intro hp
  have h4:0≤c.pow.num:=h1.2 (h3.2 (.inl hp))
  have h5:c.pow.num≠0:=fun e=>by
   have:=h2.1 e
   rw [this] at hp
   exact absurd hp (by decide)
  omega
@[reducible] def Cx.inv(k:Cx):Cx:=k.conj.scale k.norm⁻¹
theorem div_inv(x k:Cx):x.div k=x.mul k.inv:=Cx.ext' (by show (x.re*k.re-x.im*-k.im)*k.norm⁻¹=x.re*(k.re*k.norm⁻¹)-x.im*(-k.im*k.norm⁻¹);grind) (by show (x.re*-k.im+x.im*k.re)*k.norm⁻¹=x.re*(-k.im*k.norm⁻¹)+x.im*(k.re*k.norm⁻¹);grind)
theorem inv_one{k:Cx}(h:k.zero=false):k.inv.mul k=⟨1,0⟩:=by
 have hn:k.norm≠0:=zero_norm h
 have e:(k.re*k.re+k.im*k.im)*k.norm⁻¹=1:=Rat.mul_inv_cancel _ hn
 exact Cx.ext' (by show k.re*k.norm⁻¹*k.re - -k.im*k.norm⁻¹*k.im=1;grind) (by show k.re*k.norm⁻¹*k.im+-k.im*k.norm⁻¹*k.re=0;grind)
theorem inv_zero{k:Cx}(h:k.zero=false):k.inv.zero=false:=by
 cases e:k.inv.zero with
 | false=>rfl
 | true =>
  have h1:=inv_one h
  rw [zero_iff.1 e] at h1
  have h2:(0:Rat)*k.re-0*k.im=1:=congrArg Cx.re h1
  grind
theorem mul_assoc'(x y z:Cx):(x.mul y).mul z=x.mul (y.mul z):=Cx.ext' (by show (x.re*y.re-x.im*y.im)*z.re-(x.re*y.im+x.im*y.re)*z.im=x.re*(y.re*z.re-y.im*z.im)-x.im*(y.re*z.im+y.im*z.re);grind) (by show (x.re*y.re-x.im*y.im)*z.im+(x.re*y.im+x.im*y.re)*z.re=x.re*(y.re*z.im+y.im*z.re)+x.im*(y.re*z.re-y.im*z.im);grind)
theorem mul_one'(x:Cx):x.mul ⟨1,0⟩=x:=Cx.ext' (by show x.re*1-x.im*0=x.re;grind) (by show x.re*0+x.im*1=x.im;grind)
theorem zero_mul'(z:Cx):(Cx.mk 0 0).mul z=⟨0,0⟩:=Cx.ext' (by show (0:Rat)*z.re-0*z.im=0;grind) (by show (0:Rat)*z.im+0*z.re=0;grind)
theorem mul_zero_iff{x j:Cx}(h:j.zero=false):(x.mul j).zero=x.zero:=by
 rw [Bool.eq_iff_iff,zero_iff,zero_iff]
 constructor
 ·intro e
  have e2:(x.mul j).mul j.inv=⟨0,0⟩:=by rw [e];exact zero_mul' _
  rw [mul_assoc', cmul_comm j,inv_one h,mul_one'] at e2
  exact e2
 ·intro e;rw [e];exact zero_mul' _
@[reducible] def Mb.by(m:Mb)(j:Cx):Mb:=⟨m.a.mul j,m.b.mul j,m.c.mul j,m.d.mul j,m.t⟩
theorem nrm_by'(m:Mb):m.nrm=m.by m.piv.inv:=by unfold Mb.nrm;rw [div_inv,div_inv,div_inv,div_inv]
theorem cj_zero(t:Bool)(x:Cx):(cjC t x).zero=x.zero:=by
 cases t with
 | false=>rfl
 | true=>exact zero_conj x
def Ci.at(c:Ci)(v w:Cx):Rat:=c.a*v.norm+c.c*w.norm+(((c.b.mul v).mul w.conj).re+((c.b.mul v).mul w.conj).re)
def Ci.mid(c:Ci)(n:Mb):Cx:=((((Cx.mk c.a 0).mul (n.a.mul n.b.conj)).add ((c.b.mul n.a).mul n.d.conj)).add ((c.b.mul n.b).conj.mul n.c)).add ((Cx.mk c.c 0).mul (n.c.mul n.d.conj))
def Ci.im(c:Ci)(n:Mb)(t:Bool):Ci:=⟨c.at n.a n.c,cjC t (c.mid n),c.at n.b n.d⟩
def Mb.img(m:Mb)(c:Ci):Ci:=c.im m.undo m.t
theorem norm_cj(t:Bool)(z:Cx):(cjC t z).norm=z.norm:=by
 cases t
 ·rfl
 ·show z.re*z.re+-z.im*-z.im=z.re*z.re+z.im*z.im;grind
theorem im_pow(c:Ci)(n:Mb)(t:Bool):(c.im n t).pow=c.pow*n.det.norm:=by
 show (cjC t (c.mid n)).norm-c.at n.a n.c*c.at n.b n.d=_
 rw [norm_cj]
 obtain⟨A,⟨B1,B2⟩,C⟩:=c
 obtain⟨⟨p1,p2⟩,⟨q1,q2⟩,⟨r1,r2⟩,⟨s1,s2⟩,u⟩:=n
 unfold Ci.mid Ci.at
 simp only [Cx.norm,Cx.mul,Cx.add,Cx.sub,Cx.conj,Mb.det,Ci.pow]
 grind
theorem at_eq(c:Ci)(v w:Cx):(0:Rat)+c.a*v.norm+(((c.b.mul v).mul w.conj).re+((c.b.mul v).mul w.conj).re)+c.c*w.norm=c.at v w:=by unfold Ci.at;grind
theorem mid_eq(c:Ci)(n:Mb):((((n.a.mul n.b.conj).scale c.a).add ((c.b.mul n.a).mul n.d.conj)).add ((c.b.mul n.b).conj.mul n.c)).add ((n.c.mul n.d.conj).scale c.c)=c.mid n:=by
 have e:∀ (z:Cx) (x:Rat),z.scale x=(Cx.mk x 0).mul z:=fun z x=>Cx.ext' (by show z.re*x=x*z.re-0*z.im;grind) (by show z.im*x=x*z.im+0*z.re;grind)
 unfold Ci.mid
 rw [e,e]
theorem det_by(m:Mb)(j:Cx):(m.by j).det=(m.det.mul j).mul j:=by
 obtain⟨⟨p1,p2⟩,⟨q1,q2⟩,⟨r1,r2⟩,⟨s1,s2⟩,u⟩:=m
 obtain⟨j1,j2⟩:=j
 exact Cx.ext' (by simp only [Mb.det,Mb.by,Cx.mul,Cx.sub];grind) (by simp only [Mb.det,Mb.by,Cx.mul,Cx.sub];grind)
theorem nrm_det{m:Mb}(h:m.det.zero=false):m.nrm.det.zero=false:=by
 have h' := inv_zero (det_piv h)
 rw [nrm_by', det_by,mul_zero_iff h', mul_zero_iff h'];exact h
theorem undo_det{m:Mb}(h:m.det.zero=false):m.undo.det.zero=false:=by
 cases e:m.t with
 | true=>rw [← undo_1 e];exact nrm_det (by rw [det_undoC,zero_conj];exact h)
 | false=>rw [← undo_0 e];exact nrm_det (by rw [det_undo];exact h)
theorem sq_nn(x:Rat):0≤x*x:=by
 rcases Rat.le_total (a:=0) (b:=x) with g|g
 ·exact Rat.mul_nonneg g g
 ·have g' : 0≤-x:=by grind
  have:=Rat.mul_nonneg g' g'
  grind
theorem norm_pos'{z:Cx}(h:z.zero=false):0<z.norm:=by
 have h1:z.norm≠0:=zero_norm h
 have h2:=sq_nn z.re
 have h3:=sq_nn z.im
 have h4:0≤z.norm:=by show 0≤z.re*z.re+z.im*z.im;grind
 grind
theorem img_pos{m:Mb}{c:Ci}(h:m.det.zero=false)(hc:c.pos=true):(m.img c).pos=true:=by
 rw [pos_iff] at hc ⊢
 unfold Mb.img
 rw [im_pow]
 exact Rat.mul_pos hc (norm_pos' (undo_det h))
def HB(z:Cx)(n:Nat):Prop:=ht z.re≤n∧ht z.im≤n
section
variable {x y z:Cx} {p q:Rat} {a b n:Nat}
theorem HB.two(h1:ht z.re≤a)(h2:ht z.im≤b)(n:Nat)(h:(Nat.ble a n&&Nat.ble b n)=true:=by decide):HB z n:=by
 simp only [Bool.and_eq_true,Nat.ble_eq] at h
 exact⟨Nat.le_trans h1 h.1,Nat.le_trans h2 h.2⟩
theorem HB.mul(h1:HB x a)(h2:HB y b)(n:Nat)(h:2*a+2*b≤n:=by decide):HB (x.mul y) n:=by
 have:=hc_mul x y
 unfold HB at *;omega
theorem HB.add(h1:HB x a)(h2:HB y b)(n:Nat)(h:a+b≤n:=by decide):HB (x.add y) n:=by
 have:=hc_add x y
 unfold HB at *;omega
theorem HB.sub(h1:HB x a)(h2:HB y b)(n:Nat)(h:a+b≤n:=by decide):HB (x.sub y) n:=by
 have:=hc_sub x y
 unfold HB at *;omega
theorem HB.div(h1:HB x a)(h2:HB y b)(n:Nat)(h:6*a+6*b≤n:=by decide):HB (x.div y) n:=by
 have:=hc_div x y
 unfold HB at *;omega
theorem HB.neg(h1:HB x a):HB x.neg a:=by have:=hc_neg x;unfold HB at *;omega
theorem HB.conj(h1:HB x a):HB x.conj a:=by have:=hc_conj x;unfold HB at *;omega
theorem HB.cj(t:Bool)(h1:HB x a):HB (cjC t x) a:=by have:=cj_ht t x;unfold HB at *;omega
theorem HB.scale(h1:HB x a)(h2:ht p≤b)(n:Nat)(h:a+b≤n:=by decide):HB (x.scale p) n:=by
 have:=hc_scale x p
 unfold HB at *;omega
theorem HB.norm(h1:HB x a)(n:Nat)(h:4*a≤n:=by decide):ht x.norm≤n:=by
 have:=hc_norm x
 unfold HB at *;omega
theorem hb_add(h1:ht p≤a)(h2:ht q≤b)(n:Nat)(h:a+b≤n:=by decide):ht (p+q)≤n:=Nat.le_trans (ht_add p q) (Nat.le_trans (Nat.add_le_add h1 h2) h)
theorem hb_sub(h1:ht p≤a)(h2:ht q≤b)(n:Nat)(h:a+b≤n:=by decide):ht (p-q)≤n:=Nat.le_trans (ht_sub p q) (Nat.le_trans (Nat.add_le_add h1 h2) h)
theorem hb_mul(h1:ht p≤a)(h2:ht q≤b)(n:Nat)(h:a+b≤n:=by decide):ht (p*q)≤n:=Nat.le_trans (ht_mul p q) (Nat.le_trans (Nat.add_le_add h1 h2) h)
theorem hb_neg(h1:ht p≤a):ht (-p)≤a:=by rw [ht_neg];exact h1
theorem hb_inv(h1:ht p≤a):ht p⁻¹≤a:=by rw [ht_inv];exact h1
theorem hb_ci{c:Ci}(h:ht c.a+ht c.b.re+ht c.b.im+ht c.c≤n):ht c.a≤n∧HB c.b n∧ht c.c≤n:=by unfold HB;omega
theorem hb_mb{m:Mb}(h:ht m.a.re+ht m.a.im+ht m.b.re+ht m.b.im+ht m.c.re+ht m.c.im+ht m.d.re+ht m.d.im≤n):HB m.a n∧HB m.b n∧HB m.c n∧HB m.d n:=by unfold HB;omega
end
end Go.Proofs.YtcboejgklgnifaaGreat
namespace Go.Proofs.YtcboejgklgnifaaGreat
open Go.RowKit Rgn Eng
def idxF:List Bool→Int→Int
 | [],_=>-1
 | b::l,k=>if b then idxF l (k+1) else k
theorem idxF_all(l:List Bool):decide ((0:Int)≤idxF l 0) = !(l.all id):=by
 have key:∀ (l:List Bool) (k:Int),0≤k→decide ((0:Int)≤idxF l k) = !(l.all id):=by
  intro l
  induction l with
  | nil=>intro k _;rfl
  | cons b l ih =>
   intro k hk
   cases b with
   | true=>exact ih (k+1) (by omega)
   | false=>show decide ((0:Int)≤k)=true;exact decide_eq_true hk
 exact key l 0 (Int.le_refl _)
def mn3(xa xb xc ya yb yc za zb zc:Rat):Rat:=(0+(yb*zc-yc*zb)*xa)+(yc*za-ya*zc)*xb+(ya*zb-yb*za)*xc
theorem mn3_hb{xa xb xc ya yb yc za zb zc:Rat}(h1:ht xa≤40000)(h2:ht xb≤40000)(h3:ht xc≤40000)(h4:ht ya≤40000)(h5:ht yb≤40000)(h6:ht yc≤40000)(h7:ht za≤40000)(h8:ht zb≤40000)(h9:ht zc≤40000):ht (mn3 xa xb xc ya yb yc za zb zc)≤600002 :=
 hb_add (hb_add (hb_add (Nat.le_of_eq ht_zero) (hb_mul (hb_sub (hb_mul h5 h9 80000) (hb_mul h6 h8 80000) 160000) h1 200000) 200002) (hb_mul (hb_sub (hb_mul h6 h7 80000) (hb_mul h4 h9 80000) 160000) h2 200000) 400002) (hb_mul (hb_sub (hb_mul h4 h8 80000) (hb_mul h5 h7 80000) 160000) h3 200000) 600002
def Ci.acr(x y z:Ci):Ci :=
 ⟨-(mn3 x.a x.b.re x.b.im y.a y.b.re y.b.im z.a z.b.re z.b.im),((⟨mn3 x.a x.c x.b.im y.a y.c y.b.im z.a z.c z.b.im,0⟩:Cx).add ((⟨-(mn3 x.a x.c x.b.re y.a y.c y.b.re z.a z.c z.b.re),0⟩:Cx).mul (Cx.ofInt 0 1))).scale (Rat.divInt (-1) 2),mn3 x.c x.b.re x.b.im y.c y.b.re y.b.im z.c z.b.re z.b.im⟩
theorem acr_ht{x y z:Ci}(h1:ht x.a+ht x.b.re+ht x.b.im+ht x.c≤40000)(h2:ht y.a+ht y.b.re+ht y.b.im+ht y.c≤40000)(h3:ht z.a+ht z.b.re+ht z.b.im+ht z.c≤40000):ht (Ci.acr x y z).a+ht (Ci.acr x y z).b.re+ht (Ci.acr x y z).b.im+ht (Ci.acr x y z).c≤4800036:=by
 obtain⟨a1,b1,c1⟩:=hb_ci h1
 obtain⟨a2,b2,c2⟩:=hb_ci h2
 obtain⟨a3,b3,c3⟩:=hb_ci h3
 have k0:=mn3_hb a1 c1 b1.2 a2 c2 b2.2 a3 c3 b3.2
 have k1:=hb_neg (mn3_hb a1 c1 b1.1 a2 c2 b2.1 a3 c3 b3.1)
 have k2:=HB.mul (HB.two (z:=Cx.mk (-(mn3 x.a x.c x.b.re y.a y.c y.b.re z.a z.c z.b.re)) 0) k1 (Nat.le_of_eq ht_zero) 600002) (⟨by decide,by decide⟩:HB (Cx.ofInt 0 1) 3) 1200010
 have k3:=HB.add (HB.two (z:=Cx.mk (mn3 x.a x.c x.b.im y.a y.c y.b.im z.a z.c z.b.im) 0) k0 (Nat.le_of_eq ht_zero) 600002) k2 1800012
 have k4:=hb_neg (mn3_hb a1 b1.1 b1.2 a2 b2.1 b2.2 a3 b3.1 b3.2)
 have k5:=HB.scale k3 (by decide:ht (Rat.divInt (-1) 2)≤4) 1800016
 have k6:=mn3_hb c1 b1.1 b1.2 c2 b2.1 b2.2 c3 b3.1 b3.2
 exact Nat.le_trans (Nat.add_le_add (Nat.add_le_add (Nat.add_le_add k4 k5.1) k5.2) k6) (by decide)
theorem plus_ht(x y:Ci):ht (x.plus y).a+ht (x.plus y).b.re+ht (x.plus y).b.im+ht (x.plus y).c≤(ht x.a+ht x.b.re+ht x.b.im+ht x.c)+(ht y.a+ht y.b.re+ht y.b.im+ht y.c):=by
 have h1:ht (x.plus y).a≤ht x.a+ht y.a:=ht_add x.a y.a
 have h2:ht (x.plus y).b.re≤ht x.b.re+ht y.b.re:=ht_add x.b.re y.b.re
 have h3:ht (x.plus y).b.im≤ht x.b.im+ht y.b.im:=ht_add x.b.im y.b.im
 have h4:ht (x.plus y).c≤ht x.c+ht y.c:=ht_add x.c y.c
 omega
theorem out_hs(x:Ci):ht x.out.a+ht x.out.b.re+ht x.out.b.im+ht x.out.c=ht x.a+ht x.b.re+ht x.b.im+ht x.c:=by
 obtain⟨h1,h2,h3,h4⟩:=out_ht x;omega
def fstN:List Int→Bool
 | []=>false
 | n::l=>if (n != 0)=true then decide (n<0) else fstN l
def Ci.ahd(a b:Ci):Bool:=fstN [-(icmp (a.a.num*(b.a.den:Int)) (b.a.num*(a.a.den:Int))),(a.b.sub b.b).re.num.sign,(a.b.sub b.b).im.num.sign,icmp (a.c.num*(b.c.den:Int)) (b.c.num*(a.c.den:Int))]
def Ci.f4s(a b c:Ci):Ci:=(a.plus b).plus c
def Ci.f4x(a b c:Ci):Ci:=(Ci.f4s a b c).plus (Ci.acr a b c)
def Ci.f4y(a b c:Ci):Ci:=(Ci.f4s a b c).plus (Ci.acr a b c).out
def Ci.f4p(a b c:Ci):Ci:=if (Ci.f4y a b c).ahd (Ci.f4x a b c)=true then Ci.f4y a b c else Ci.f4x a b c
def Ci.f4q(a b c:Ci):Ci:=if (Ci.f4y a b c).ahd (Ci.f4x a b c)=true then Ci.f4x a b c else Ci.f4y a b c
def Ci.f4b(a b c:Ci):Bool:=(cierr (Ci.f4p a b c) != 0)||(cierr (Ci.f4q a b c) != 0)
def Ci.f4P(a b c:Ci):RCi:=if Ci.f4b a b c=true then rzCi else cicut (Ci.f4p a b c)
def Ci.f4Q(a b c:Ci):RCi:=if Ci.f4b a b c=true then rzCi else cicut (Ci.f4q a b c)
def Ci.f4E(a b c:Ci):Int:=if Ci.f4b a b c=true then 4 else 0
def Ci.all3(a b c:Ci):Bool:=[b.touch a].all id&&[c.touch a,c.touch b].all id
theorem f4_ht{x y z:Ci}(h1:ht x.a+ht x.b.re+ht x.b.im+ht x.c≤40000)(h2:ht y.a+ht y.b.re+ht y.b.im+ht y.c≤40000)(h3:ht z.a+ht z.b.re+ht z.b.im+ht z.c≤40000):ht (Ci.f4s x y z).a+ht (Ci.f4s x y z).b.re+ht (Ci.f4s x y z).b.im+ht (Ci.f4s x y z).c≤120000∧ht (Ci.f4x x y z).a+ht (Ci.f4x x y z).b.re+ht (Ci.f4x x y z).b.im+ht (Ci.f4x x y z).c≤5000000∧ht (Ci.f4y x y z).a+ht (Ci.f4y x y z).b.re+ht (Ci.f4y x y z).b.im+ht (Ci.f4y x y z).c≤5000000:=by
 have g:=acr_ht h1 h2 h3
 have k1:=plus_ht x y
 have k2:=plus_ht (x.plus y) z
 have k3:=plus_ht (Ci.f4s x y z) (Ci.acr x y z)
 have k4:=plus_ht (Ci.f4s x y z) (Ci.acr x y z).out
 have k5:=out_hs (Ci.acr x y z)
 unfold Ci.f4x Ci.f4y
 refine⟨?_,?_,?_⟩<;>(unfold Ci.f4s at *;omega)
section
variable {a b c:Ci}
theorem fo_e(e:Ci.f4b a b c=true):Value.tuple #[rciV rzCi,rciV rzCi,.int .i64 4]=.tuple #[rciV (Ci.f4P a b c),rciV (Ci.f4Q a b c),.int .i64 (Ci.f4E a b c)]:=by
 unfold Ci.f4P Ci.f4Q Ci.f4E;rw [if_pos e,if_pos e,if_pos e]
theorem fo_1(h:(Ci.f4y a b c).ahd (Ci.f4x a b c)=true)(e:(cierr (Ci.f4y a b c) != 0)=true):Value.tuple #[rciV rzCi,rciV rzCi,.int .i64 4]=.tuple #[rciV (Ci.f4P a b c),rciV (Ci.f4Q a b c),.int .i64 (Ci.f4E a b c)] :=
 fo_e (by unfold Ci.f4b Ci.f4p;rw [if_pos h,e];rfl)
theorem fo_2(h:(Ci.f4y a b c).ahd (Ci.f4x a b c)=true)(e:(cierr (Ci.f4x a b c) != 0)=true):Value.tuple #[rciV rzCi,rciV rzCi,.int .i64 4]=.tuple #[rciV (Ci.f4P a b c),rciV (Ci.f4Q a b c),.int .i64 (Ci.f4E a b c)] :=
 fo_e (by unfold Ci.f4b Ci.f4q;rw [if_pos h,e,Bool.or_true])
theorem fo_3(h:(Ci.f4y a b c).ahd (Ci.f4x a b c)=true)(e:(cierr (Ci.f4y a b c) != 0)=false)(e': (cierr (Ci.f4x a b c) != 0)=false):Value.tuple #[rciV (cicut (Ci.f4y a b c)),rciV (cicut (Ci.f4x a b c)),.int .i64 0]=.tuple #[rciV (Ci.f4P a b c),rciV (Ci.f4Q a b c),.int .i64 (Ci.f4E a b c)]:=by
 have g:¬ Ci.f4b a b c=true:=by unfold Ci.f4b Ci.f4p Ci.f4q;rw [if_pos h,if_pos h,e,e'];decide
 unfold Ci.f4P Ci.f4Q Ci.f4E;rw [if_neg g,if_neg g,if_neg g];unfold Ci.f4p Ci.f4q;rw [if_pos h,if_pos h]
theorem fo_4(h:(Ci.f4y a b c).ahd (Ci.f4x a b c)=false)(e:(cierr (Ci.f4x a b c) != 0)=true):Value.tuple #[rciV rzCi,rciV rzCi,.int .i64 4]=.tuple #[rciV (Ci.f4P a b c),rciV (Ci.f4Q a b c),.int .i64 (Ci.f4E a b c)] :=
 fo_e (by unfold Ci.f4b Ci.f4p;rw [if_neg (by rw [h];decide),e];rfl)
theorem fo_5(h:(Ci.f4y a b c).ahd (Ci.f4x a b c)=false)(e:(cierr (Ci.f4y a b c) != 0)=true):Value.tuple #[rciV rzCi,rciV rzCi,.int .i64 4]=.tuple #[rciV (Ci.f4P a b c),rciV (Ci.f4Q a b c),.int .i64 (Ci.f4E a b c)] :=
 fo_e (by unfold Ci.f4b Ci.f4q;rw [if_neg (by rw [h];decide),e,Bool.or_true])
theorem fo_6(h:(Ci.f4y a b c).ahd (Ci.f4x a b c)=false)(e:(cierr (Ci.f4x a b c) != 0)=false)(e': (cierr (Ci.f4y a b c) != 0)=false):Value.tuple #[rciV (cicut (Ci.f4x a b c)),rciV (cicut (Ci.f4y a b c)),.int .i64 0]=.tuple #[rciV (Ci.f4P a b c),rciV (Ci.f4Q a b c),.int .i64 (Ci.f4E a b c)]:=by
 have h' : ¬ (Ci.f4y a b c).ahd (Ci.f4x a b c)=true:=by rw [h];decide
 have g:¬ Ci.f4b a b c=true:=by unfold Ci.f4b Ci.f4p Ci.f4q;rw [if_neg h', if_neg h', e,e'];decide
 unfold Ci.f4P Ci.f4Q Ci.f4E;rw [if_neg g,if_neg g,if_neg g];unfold Ci.f4p Ci.f4q;rw [if_neg h', if_neg h']
end
def Ci.swp(a b c d x:Ci):Ci:=(((((a.plus b).plus c).plus d).plus x.out).plus ((((a.plus b).plus c).plus d).plus x.out)).plus x.out
def Ci.all4(a b c d:Ci):Bool:=[b.touch a].all id&&[c.touch a,c.touch b].all id&&[d.touch a,d.touch b,d.touch c].all id
theorem swp_ht(a b c d x:Ci):ht (Ci.swp a b c d x).a+ht (Ci.swp a b c d x).b.re+ht (Ci.swp a b c d x).b.im+ht (Ci.swp a b c d x).c≤2*((ht a.a+ht a.b.re+ht a.b.im+ht a.c)+(ht b.a+ht b.b.re+ht b.b.im+ht b.c)+(ht c.a+ht c.b.re+ht c.b.im+ht c.c)+(ht d.a+ht d.b.re+ht d.b.im+ht d.c))+3*(ht x.a+ht x.b.re+ht x.b.im+ht x.c):=by
 have h1:=plus_ht a b
 have h2:=plus_ht (a.plus b) c
 have h3:=plus_ht ((a.plus b).plus c) d
 have h4:=out_hs x
 have h5:=plus_ht (((a.plus b).plus c).plus d) x.out
 have h6:=plus_ht ((((a.plus b).plus c).plus d).plus x.out) ((((a.plus b).plus c).plus d).plus x.out)
 have h7:=plus_ht (((((a.plus b).plus c).plus d).plus x.out).plus ((((a.plus b).plus c).plus d).plus x.out)) x.out
 unfold Ci.swp;omega
theorem ci1_eq(b:Bool):decide ((0:Int)≤idxF [!b] 0)=b:=by cases b<;>rfl
theorem nT{b:Bool}(h:(!b)=false):b=true:=by simpa using h
theorem nF{b:Bool}(h:(!b)=true):b=false:=by simpa using h
theorem wneg(a b:Int):IntKind.wrap .i64 (-(icmp a b))=-(icmp a b):=by
 unfold icmp;split
 ·decide
 ·split<;>decide
end Go.Proofs.YtcboejgklgnifaaGreat
namespace Go.Proofs.YtcboejgklgnifaaGreat
open Go.RowKit Rgn Eng
variable {S:Nat→Prop} {W:World}
theorem tc1{v0 w1_0 w1_1 w1_2 w1_3:Value}{b1:Nat}(y x:Ci)(t0:(RingP y).p S v0 W)(B1:W.heap[b1]? = some (.cells #[w1_0,w1_1,w1_2,w1_3] 133 (0,0)))(t1:(RingP x).p S (.agg #[w1_0,w1_1,w1_2,w1_3]) W)(p0:ht x.a+ht x.b.re+ht x.b.im+ht x.c+(ht y.a+ht y.b.re+ht y.b.im+ht y.c)≤67108000):Calls Tryz.prog 182 #[v0,.pointer (some ⟨b1,0,none⟩)] W (RetV (.bool (!(x.touch y))) W):=by
 refine Run.goP (S:=S) ((Pack.nil.s spRing t0).bv B1 none 4 (ringCells t1)) Tryz.func182 rfl ?_
 refine Run.cV [.bool (x.touch y)] kb (fun _ _ _ H=>dsTouch x y (RingP.mk (H.f 4) (H.f 5) (H.f 6) (H.f 7)) (RingP.mk (H.f 0) (H.f 1) (H.f 2) (H.f 3)) p0) ?_
 refine (Bool.eq_false_or_eq_true (x.touch y)).elim (fun c1=>?_) (fun c1=>?_)
 · refine Run.kn c1 ?_
   exact Run.rV (V' := .bool false) ((congrArg Value.bool (by simp [c1])))
 · refine Run.kn c1 ?_
   exact Run.rV (V' := .bool true) ((congrArg Value.bool (by simp [c1])))
theorem ix0{w1_0 w1_1 w1_2 w1_3:Value}{b0 b1:Nat}(n0:Nat)(x:Ci)(B0:∃ r:List Value,W.heap[b0]? = some (.cells ⟨[]++r⟩ 133 (0,0)))(B1:W.heap[b1]? = some (.cells #[w1_0,w1_1,w1_2,w1_3] 133 (0,0)))(t1:(RingP x).p S (.agg #[w1_0,w1_1,w1_2,w1_3]) W):Calls Tryz.prog 230 #[.slice (some ⟨b0,0,none⟩) 0 n0,.func (.func 182) #[] #[.pointer (some ⟨b1,0,none⟩)]] W (RetV (.int .i64 (idxF [] 0)) W):=by
 refine Run.goP (S:=S) ((Pack.nil.bm B0 0 n0 0 ((show AllF (Amb S W) W [] [] from trivial))).bf B1 182 4 (ringCells t1)) Tryz.func230 rfl ?_
 exact Run.rV rfl
theorem ix1{w0_0 w0_1 w0_2 w0_3 w1_0 w1_1 w1_2 w1_3:Value}{b0 b1:Nat}(n0:Nat)(y0 x:Ci)(B0:∃ r:List Value,W.heap[b0]? = some (.cells ⟨[w0_0,w0_1,w0_2,w0_3]++r⟩ 133 (0,0)))(t0_0:(RingP y0).p S (.agg #[w0_0,w0_1,w0_2,w0_3]) W)(B1:W.heap[b1]? = some (.cells #[w1_0,w1_1,w1_2,w1_3] 133 (0,0)))(t1:(RingP x).p S (.agg #[w1_0,w1_1,w1_2,w1_3]) W)(p0:ht x.a+ht x.b.re+ht x.b.im+ht x.c+(ht y0.a+ht y0.b.re+ht y0.b.im+ht y0.c)≤67108000):Calls Tryz.prog 230 #[.slice (some ⟨b0,0,none⟩) 1 n0,.func (.func 182) #[] #[.pointer (some ⟨b1,0,none⟩)]] W (RetV (.int .i64 (idxF [x.touch y0] 0)) W):=by
 refine Run.goP (S:=S) ((Pack.nil.bm B0 1 n0 4 (ringCells t0_0)).bf B1 182 4 (ringCells t1)) Tryz.func230 rfl ?_
 refine Run.cV [.bool (!(x.touch y0))] kb (fun _ _ _ H=>tc1 y0 x (RingP.mk (H.f 0) (H.f 1) (H.f 2) (H.f 3)) (H.b 1) (RingP.mk (H.f 4) (H.f 5) (H.f 6) (H.f 7)) p0) ?_
 refine (Bool.eq_false_or_eq_true (!(x.touch y0))).elim (fun c1=>?_) (fun c1=>?_)
 · refine Run.kn c1 ?_
   exact Run.rV (V' := .int .i64 (0)) ((congrArg (Value.int .i64) (by simp [idxF,nF c1])))
 · refine Run.kn c1 ?_
   exact Run.rV (V' := .int .i64 (-1)) ((congrArg (Value.int .i64) (by simp [idxF,nT c1])))
theorem ix2{w0_0 w0_1 w0_2 w0_3 w0_4 w0_5 w0_6 w0_7 w1_0 w1_1 w1_2 w1_3:Value}{b0 b1:Nat}(n0:Nat)(y0 y1 x:Ci)(B0:∃ r:List Value,W.heap[b0]? = some (.cells ⟨[w0_0,w0_1,w0_2,w0_3,w0_4,w0_5,w0_6,w0_7]++r⟩ 133 (0,0)))(t0_0:(RingP y0).p S (.agg #[w0_0,w0_1,w0_2,w0_3]) W)(t0_1:(RingP y1).p S (.agg #[w0_4,w0_5,w0_6,w0_7]) W)(B1:W.heap[b1]? = some (.cells #[w1_0,w1_1,w1_2,w1_3] 133 (0,0)))(t1:(RingP x).p S (.agg #[w1_0,w1_1,w1_2,w1_3]) W)(p0:ht x.a+ht x.b.re+ht x.b.im+ht x.c+(ht y0.a+ht y0.b.re+ht y0.b.im+ht y0.c)≤67108000)(p1:ht x.a+ht x.b.re+ht x.b.im+ht x.c+(ht y1.a+ht y1.b.re+ht y1.b.im+ht y1.c)≤67108000):Calls Tryz.prog 230 #[.slice (some ⟨b0,0,none⟩) 2 n0,.func (.func 182) #[] #[.pointer (some ⟨b1,0,none⟩)]] W (RetV (.int .i64 (idxF [x.touch y0,x.touch y1] 0)) W):=by
 refine Run.goP (S:=S) ((Pack.nil.bm B0 2 n0 8 (AllF.app (ringCells t0_0) (ringCells t0_1))).bf B1 182 4 (ringCells t1)) Tryz.func230 rfl ?_
 refine Run.cV [.bool (!(x.touch y0))] kb (fun _ _ _ H=>tc1 y0 x (RingP.mk (H.f 0) (H.f 1) (H.f 2) (H.f 3)) (H.b 1) (RingP.mk (H.f 8) (H.f 9) (H.f 10) (H.f 11)) p0) ?_
 refine (Bool.eq_false_or_eq_true (!(x.touch y0))).elim (fun c1=>?_) (fun c1=>?_)
 · refine Run.kn c1 ?_
   exact Run.rV (V' := .int .i64 (0)) ((congrArg (Value.int .i64) (by simp [idxF,nF c1])))
 · refine Run.kn c1 ?_
   refine Run.cV [.bool (!(x.touch y1))] kb (fun _ _ _ H=>tc1 y1 x (RingP.mk (H.f 4) (H.f 5) (H.f 6) (H.f 7)) (H.b 1) (RingP.mk (H.f 8) (H.f 9) (H.f 10) (H.f 11)) p1) ?_
   refine (Bool.eq_false_or_eq_true (!(x.touch y1))).elim (fun c2=>?_) (fun c2=>?_)
   · refine Run.kn c2 ?_
     exact Run.rV (V' := .int .i64 (1)) ((congrArg (Value.int .i64) (by simp [idxF,nT c1,nF c2])))
   · refine Run.kn c2 ?_
     exact Run.rV (V' := .int .i64 (-1)) ((congrArg (Value.int .i64) (by simp [idxF,nT c1,nT c2])))
theorem ix3{w0_0 w0_1 w0_2 w0_3 w0_4 w0_5 w0_6 w0_7 w0_8 w0_9 w0_10 w0_11 w1_0 w1_1 w1_2 w1_3:Value}{b0 b1:Nat}(n0:Nat)(y0 y1 y2 x:Ci)(B0:∃ r:List Value,W.heap[b0]? = some (.cells ⟨[w0_0,w0_1,w0_2,w0_3,w0_4,w0_5,w0_6,w0_7,w0_8,w0_9,w0_10,w0_11]++r⟩ 133 (0,0)))(t0_0:(RingP y0).p S (.agg #[w0_0,w0_1,w0_2,w0_3]) W)(t0_1:(RingP y1).p S (.agg #[w0_4,w0_5,w0_6,w0_7]) W)(t0_2:(RingP y2).p S (.agg #[w0_8,w0_9,w0_10,w0_11]) W)(B1:W.heap[b1]? = some (.cells #[w1_0,w1_1,w1_2,w1_3] 133 (0,0)))(t1:(RingP x).p S (.agg #[w1_0,w1_1,w1_2,w1_3]) W)(p0:ht x.a+ht x.b.re+ht x.b.im+ht x.c+(ht y0.a+ht y0.b.re+ht y0.b.im+ht y0.c)≤67108000)(p1:ht x.a+ht x.b.re+ht x.b.im+ht x.c+(ht y1.a+ht y1.b.re+ht y1.b.im+ht y1.c)≤67108000)(p2:ht x.a+ht x.b.re+ht x.b.im+ht x.c+(ht y2.a+ht y2.b.re+ht y2.b.im+ht y2.c)≤67108000):Calls Tryz.prog 230 #[.slice (some ⟨b0,0,none⟩) 3 n0,.func (.func 182) #[] #[.pointer (some ⟨b1,0,none⟩)]] W (RetV (.int .i64 (idxF [x.touch y0,x.touch y1,x.touch y2] 0)) W):=by
 refine Run.goP (S:=S) ((Pack.nil.bm B0 3 n0 12 (AllF.app (ringCells t0_0) (AllF.app (ringCells t0_1) (ringCells t0_2)))).bf B1 182 4 (ringCells t1)) Tryz.func230 rfl ?_
 refine Run.cV [.bool (!(x.touch y0))] kb (fun _ _ _ H=>tc1 y0 x (RingP.mk (H.f 0) (H.f 1) (H.f 2) (H.f 3)) (H.b 1) (RingP.mk (H.f 12) (H.f 13) (H.f 14) (H.f 15)) p0) ?_
 refine (Bool.eq_false_or_eq_true (!(x.touch y0))).elim (fun c1=>?_) (fun c1=>?_)
 · refine Run.kn c1 ?_
   exact Run.rV (V' := .int .i64 (0)) ((congrArg (Value.int .i64) (by simp [idxF,nF c1])))
 · refine Run.kn c1 ?_
   refine Run.cV [.bool (!(x.touch y1))] kb (fun _ _ _ H=>tc1 y1 x (RingP.mk (H.f 4) (H.f 5) (H.f 6) (H.f 7)) (H.b 1) (RingP.mk (H.f 12) (H.f 13) (H.f 14) (H.f 15)) p1) ?_
   refine (Bool.eq_false_or_eq_true (!(x.touch y1))).elim (fun c2=>?_) (fun c2=>?_)
   · refine Run.kn c2 ?_
     exact Run.rV (V' := .int .i64 (1)) ((congrArg (Value.int .i64) (by simp [idxF,nT c1,nF c2])))
   · refine Run.kn c2 ?_
     refine Run.cV [.bool (!(x.touch y2))] kb (fun _ _ _ H=>tc1 y2 x (RingP.mk (H.f 8) (H.f 9) (H.f 10) (H.f 11)) (H.b 1) (RingP.mk (H.f 12) (H.f 13) (H.f 14) (H.f 15)) p2) ?_
     refine (Bool.eq_false_or_eq_true (!(x.touch y2))).elim (fun c3=>?_) (fun c3=>?_)
     · refine Run.kn c3 ?_
       exact Run.rV (V' := .int .i64 (2)) ((congrArg (Value.int .i64) (by simp [idxF,nT c1,nT c2,nF c3])))
     · refine Run.kn c3 ?_
       exact Run.rV (V' := .int .i64 (-1)) ((congrArg (Value.int .i64) (by simp [idxF,nT c1,nT c2,nT c3])))
theorem cf0{w1_0 w1_1 w1_2 w1_3:Value}{b0 b1:Nat}(n0:Nat)(x:Ci)(B0:∃ r:List Value,W.heap[b0]? = some (.cells ⟨[]++r⟩ 133 (0,0)))(B1:W.heap[b1]? = some (.cells #[w1_0,w1_1,w1_2,w1_3] 133 (0,0)))(t1:(RingP x).p S (.agg #[w1_0,w1_1,w1_2,w1_3]) W):Calls Tryz.prog 181 #[.slice (some ⟨b0,0,none⟩) 0 n0,.func (.func 182) #[] #[.pointer (some ⟨b1,0,none⟩)]] W (RetV (.bool (!([].all id))) W):=by
 refine Run.goP (S:=S) ((Pack.nil.bm B0 0 n0 0 ((show AllF (Amb S W) W [] [] from trivial))).bf B1 182 4 (ringCells t1)) Tryz.func181 rfl ?_
 refine Run.cV [.int .i64 (idxF [] 0)] kb (fun _ _ _ H=>ix0 n0 x (H.bq 0 0) (H.b 1) (RingP.mk (H.f 0) (H.f 1) (H.f 2) (H.f 3))) ?_
 refine Run.ic (idxF [] 0) 0 (decide (0≤(idxF [] 0))) ?_
 exact Run.rV ((congrArg Value.bool (idxF_all _)))
theorem cf1{w0_0 w0_1 w0_2 w0_3 w1_0 w1_1 w1_2 w1_3:Value}{b0 b1:Nat}(n0:Nat)(y0 x:Ci)(B0:∃ r:List Value,W.heap[b0]? = some (.cells ⟨[w0_0,w0_1,w0_2,w0_3]++r⟩ 133 (0,0)))(t0_0:(RingP y0).p S (.agg #[w0_0,w0_1,w0_2,w0_3]) W)(B1:W.heap[b1]? = some (.cells #[w1_0,w1_1,w1_2,w1_3] 133 (0,0)))(t1:(RingP x).p S (.agg #[w1_0,w1_1,w1_2,w1_3]) W)(p0:ht x.a+ht x.b.re+ht x.b.im+ht x.c+(ht y0.a+ht y0.b.re+ht y0.b.im+ht y0.c)≤67108000):Calls Tryz.prog 181 #[.slice (some ⟨b0,0,none⟩) 1 n0,.func (.func 182) #[] #[.pointer (some ⟨b1,0,none⟩)]] W (RetV (.bool (!([x.touch y0].all id))) W):=by
 refine Run.goP (S:=S) ((Pack.nil.bm B0 1 n0 4 (ringCells t0_0)).bf B1 182 4 (ringCells t1)) Tryz.func181 rfl ?_
 refine Run.cV [.int .i64 (idxF [x.touch y0] 0)] kb (fun _ _ _ H=>ix1 n0 y0 x (H.bq 0 4) (RingP.mk (H.f 0) (H.f 1) (H.f 2) (H.f 3)) (H.b 1) (RingP.mk (H.f 4) (H.f 5) (H.f 6) (H.f 7)) p0) ?_
 refine Run.ic (idxF [x.touch y0] 0) 0 (decide (0≤(idxF [x.touch y0] 0))) ?_
 exact Run.rV ((congrArg Value.bool (idxF_all _)))
theorem cf2{w0_0 w0_1 w0_2 w0_3 w0_4 w0_5 w0_6 w0_7 w1_0 w1_1 w1_2 w1_3:Value}{b0 b1:Nat}(n0:Nat)(y0 y1 x:Ci)(B0:∃ r:List Value,W.heap[b0]? = some (.cells ⟨[w0_0,w0_1,w0_2,w0_3,w0_4,w0_5,w0_6,w0_7]++r⟩ 133 (0,0)))(t0_0:(RingP y0).p S (.agg #[w0_0,w0_1,w0_2,w0_3]) W)(t0_1:(RingP y1).p S (.agg #[w0_4,w0_5,w0_6,w0_7]) W)(B1:W.heap[b1]? = some (.cells #[w1_0,w1_1,w1_2,w1_3] 133 (0,0)))(t1:(RingP x).p S (.agg #[w1_0,w1_1,w1_2,w1_3]) W)(p0:ht x.a+ht x.b.re+ht x.b.im+ht x.c+(ht y0.a+ht y0.b.re+ht y0.b.im+ht y0.c)≤67108000)(p1:ht x.a+ht x.b.re+ht x.b.im+ht x.c+(ht y1.a+ht y1.b.re+ht y1.b.im+ht y1.c)≤67108000):Calls Tryz.prog 181 #[.slice (some ⟨b0,0,none⟩) 2 n0,.func (.func 182) #[] #[.pointer (some ⟨b1,0,none⟩)]] W (RetV (.bool (!([x.touch y0,x.touch y1].all id))) W):=by
 refine Run.goP (S:=S) ((Pack.nil.bm B0 2 n0 8 (AllF.app (ringCells t0_0) (ringCells t0_1))).bf B1 182 4 (ringCells t1)) Tryz.func181 rfl ?_
 refine Run.cV [.int .i64 (idxF [x.touch y0,x.touch y1] 0)] kb (fun _ _ _ H=>ix2 n0 y0 y1 x (H.bq 0 8) (RingP.mk (H.f 0) (H.f 1) (H.f 2) (H.f 3)) (RingP.mk (H.f 4) (H.f 5) (H.f 6) (H.f 7)) (H.b 1) (RingP.mk (H.f 8) (H.f 9) (H.f 10) (H.f 11)) p0 p1) ?_
 refine Run.ic (idxF [x.touch y0,x.touch y1] 0) 0 (decide (0≤(idxF [x.touch y0,x.touch y1] 0))) ?_
 exact Run.rV ((congrArg Value.bool (idxF_all _)))
theorem cf3{w0_0 w0_1 w0_2 w0_3 w0_4 w0_5 w0_6 w0_7 w0_8 w0_9 w0_10 w0_11 w1_0 w1_1 w1_2 w1_3:Value}{b0 b1:Nat}(n0:Nat)(y0 y1 y2 x:Ci)(B0:∃ r:List Value,W.heap[b0]? = some (.cells ⟨[w0_0,w0_1,w0_2,w0_3,w0_4,w0_5,w0_6,w0_7,w0_8,w0_9,w0_10,w0_11]++r⟩ 133 (0,0)))(t0_0:(RingP y0).p S (.agg #[w0_0,w0_1,w0_2,w0_3]) W)(t0_1:(RingP y1).p S (.agg #[w0_4,w0_5,w0_6,w0_7]) W)(t0_2:(RingP y2).p S (.agg #[w0_8,w0_9,w0_10,w0_11]) W)(B1:W.heap[b1]? = some (.cells #[w1_0,w1_1,w1_2,w1_3] 133 (0,0)))(t1:(RingP x).p S (.agg #[w1_0,w1_1,w1_2,w1_3]) W)(p0:ht x.a+ht x.b.re+ht x.b.im+ht x.c+(ht y0.a+ht y0.b.re+ht y0.b.im+ht y0.c)≤67108000)(p1:ht x.a+ht x.b.re+ht x.b.im+ht x.c+(ht y1.a+ht y1.b.re+ht y1.b.im+ht y1.c)≤67108000)(p2:ht x.a+ht x.b.re+ht x.b.im+ht x.c+(ht y2.a+ht y2.b.re+ht y2.b.im+ht y2.c)≤67108000):Calls Tryz.prog 181 #[.slice (some ⟨b0,0,none⟩) 3 n0,.func (.func 182) #[] #[.pointer (some ⟨b1,0,none⟩)]] W (RetV (.bool (!([x.touch y0,x.touch y1,x.touch y2].all id))) W):=by
 refine Run.goP (S:=S) ((Pack.nil.bm B0 3 n0 12 (AllF.app (ringCells t0_0) (AllF.app (ringCells t0_1) (ringCells t0_2)))).bf B1 182 4 (ringCells t1)) Tryz.func181 rfl ?_
 refine Run.cV [.int .i64 (idxF [x.touch y0,x.touch y1,x.touch y2] 0)] kb (fun _ _ _ H=>ix3 n0 y0 y1 y2 x (H.bq 0 12) (RingP.mk (H.f 0) (H.f 1) (H.f 2) (H.f 3)) (RingP.mk (H.f 4) (H.f 5) (H.f 6) (H.f 7)) (RingP.mk (H.f 8) (H.f 9) (H.f 10) (H.f 11)) (H.b 1) (RingP.mk (H.f 12) (H.f 13) (H.f 14) (H.f 15)) p0 p1 p2) ?_
 refine Run.ic (idxF [x.touch y0,x.touch y1,x.touch y2] 0) 0 (decide (0≤(idxF [x.touch y0,x.touch y1,x.touch y2] 0))) ?_
 exact Run.rV ((congrArg Value.bool (idxF_all _)))
theorem tch2{w0_0 w0_1 w0_2 w0_3 w0_4 w0_5 w0_6 w0_7:Value}{b0:Nat}(n0:Nat)(d0 d1:Ci)(B0:∃ r:List Value,W.heap[b0]? = some (.cells ⟨[w0_0,w0_1,w0_2,w0_3,w0_4,w0_5,w0_6,w0_7]++r⟩ 133 (0,0)))(t0_0:(RingP d0).p S (.agg #[w0_0,w0_1,w0_2,w0_3]) W)(t0_1:(RingP d1).p S (.agg #[w0_4,w0_5,w0_6,w0_7]) W)(p0:ht d1.a+ht d1.b.re+ht d1.b.im+ht d1.c+(ht d0.a+ht d0.b.re+ht d0.b.im+ht d0.c)≤67108000):Calls Tryz.prog 89 #[.slice (some ⟨b0,0,none⟩) 2 (n0+2)] W (RetV (.bool ([d1.touch d0].all id)) W):=by
 refine Run.goP (S:=S) (Pack.nil.bm B0 2 (n0+2) 8 (AllF.app (ringCells t0_0) (ringCells t0_1))) Tryz.func89 rfl ?_
 refine Run.cV [.bool (!([].all id))] kb (fun _ _ _ H=>cf0 (n0+2) d0 (H.bq 0 0) (H.b 1) (RingP.mk (H.f 0) (H.f 1) (H.f 2) (H.f 3))) ?_
 refine Run.kn (b:=false) rfl ?_
 refine Run.cV [.bool (!([d1.touch d0].all id))] kb (fun _ _ _ H=>cf1 (n0+2) d0 d1 (H.bq 0 4) (RingP.mk (H.f 0) (H.f 1) (H.f 2) (H.f 3)) (H.b 2) (RingP.mk (H.f 4) (H.f 5) (H.f 6) (H.f 7)) p0) ?_
 refine (Bool.eq_false_or_eq_true (!([d1.touch d0].all id))).elim (fun c1=>?_) (fun c1=>?_)
 · refine Run.kn c1 ?_
   exact Run.rV (V' := .bool false) ((congrArg Value.bool (by simp only [nF c1,Bool.and_false,Bool.false_and,Bool.and_true])))
 · refine Run.kn c1 ?_
   exact Run.rV (V' := .bool true) ((congrArg Value.bool (by simp only [nT c1,Bool.and_false,Bool.false_and,Bool.and_true])))
theorem tch3{w0_0 w0_1 w0_2 w0_3 w0_4 w0_5 w0_6 w0_7 w0_8 w0_9 w0_10 w0_11:Value}{b0:Nat}(n0:Nat)(d0 d1 d2:Ci)(B0:∃ r:List Value,W.heap[b0]? = some (.cells ⟨[w0_0,w0_1,w0_2,w0_3,w0_4,w0_5,w0_6,w0_7,w0_8,w0_9,w0_10,w0_11]++r⟩ 133 (0,0)))(t0_0:(RingP d0).p S (.agg #[w0_0,w0_1,w0_2,w0_3]) W)(t0_1:(RingP d1).p S (.agg #[w0_4,w0_5,w0_6,w0_7]) W)(t0_2:(RingP d2).p S (.agg #[w0_8,w0_9,w0_10,w0_11]) W)(p0:ht d1.a+ht d1.b.re+ht d1.b.im+ht d1.c+(ht d0.a+ht d0.b.re+ht d0.b.im+ht d0.c)≤67108000)(p1:ht d2.a+ht d2.b.re+ht d2.b.im+ht d2.c+(ht d0.a+ht d0.b.re+ht d0.b.im+ht d0.c)≤67108000)(p2:ht d2.a+ht d2.b.re+ht d2.b.im+ht d2.c+(ht d1.a+ht d1.b.re+ht d1.b.im+ht d1.c)≤67108000):Calls Tryz.prog 89 #[.slice (some ⟨b0,0,none⟩) 3 (n0+3)] W (RetV (.bool ([d1.touch d0].all id&&[d2.touch d0,d2.touch d1].all id)) W):=by
 refine Run.goP (S:=S) (Pack.nil.bm B0 3 (n0+3) 12 (AllF.app (ringCells t0_0) (AllF.app (ringCells t0_1) (ringCells t0_2)))) Tryz.func89 rfl ?_
 refine Run.cV [.bool (!([].all id))] kb (fun _ _ _ H=>cf0 (n0+3) d0 (H.bq 0 0) (H.b 1) (RingP.mk (H.f 0) (H.f 1) (H.f 2) (H.f 3))) ?_
 refine Run.kn (b:=false) rfl ?_
 refine Run.cV [.bool (!([d1.touch d0].all id))] kb (fun _ _ _ H=>cf1 (n0+3) d0 d1 (H.bq 0 4) (RingP.mk (H.f 0) (H.f 1) (H.f 2) (H.f 3)) (H.b 2) (RingP.mk (H.f 4) (H.f 5) (H.f 6) (H.f 7)) p0) ?_
 refine (Bool.eq_false_or_eq_true (!([d1.touch d0].all id))).elim (fun c1=>?_) (fun c1=>?_)
 · refine Run.kn c1 ?_
   exact Run.rV (V' := .bool false) ((congrArg Value.bool (by simp only [nF c1,Bool.and_false,Bool.false_and,Bool.and_true])))
 · refine Run.kn c1 ?_
   refine Run.cV [.bool (!([d2.touch d0,d2.touch d1].all id))] kb (fun _ _ _ H=>cf2 (n0+3) d0 d1 d2 (H.bq 0 8) (RingP.mk (H.f 0) (H.f 1) (H.f 2) (H.f 3)) (RingP.mk (H.f 4) (H.f 5) (H.f 6) (H.f 7)) (H.b 3) (RingP.mk (H.f 8) (H.f 9) (H.f 10) (H.f 11)) p1 p2) ?_
   refine (Bool.eq_false_or_eq_true (!([d2.touch d0,d2.touch d1].all id))).elim (fun c2=>?_) (fun c2=>?_)
   · refine Run.kn c2 ?_
     exact Run.rV (V' := .bool false) ((congrArg Value.bool (by simp only [nT c1,nF c2,Bool.and_false,Bool.false_and,Bool.and_true])))
   · refine Run.kn c2 ?_
     exact Run.rV (V' := .bool true) ((congrArg Value.bool (by simp only [nT c1,nT c2,Bool.and_false,Bool.false_and,Bool.and_true])))
theorem tch4{w0_0 w0_1 w0_2 w0_3 w0_4 w0_5 w0_6 w0_7 w0_8 w0_9 w0_10 w0_11 w0_12 w0_13 w0_14 w0_15:Value}{b0:Nat}(n0:Nat)(d0 d1 d2 d3:Ci)(B0:∃ r:List Value,W.heap[b0]? = some (.cells ⟨[w0_0,w0_1,w0_2,w0_3,w0_4,w0_5,w0_6,w0_7,w0_8,w0_9,w0_10,w0_11,w0_12,w0_13,w0_14,w0_15]++r⟩ 133 (0,0)))(t0_0:(RingP d0).p S (.agg #[w0_0,w0_1,w0_2,w0_3]) W)(t0_1:(RingP d1).p S (.agg #[w0_4,w0_5,w0_6,w0_7]) W)(t0_2:(RingP d2).p S (.agg #[w0_8,w0_9,w0_10,w0_11]) W)(t0_3:(RingP d3).p S (.agg #[w0_12,w0_13,w0_14,w0_15]) W)(p0:ht d1.a+ht d1.b.re+ht d1.b.im+ht d1.c+(ht d0.a+ht d0.b.re+ht d0.b.im+ht d0.c)≤67108000)(p1:ht d2.a+ht d2.b.re+ht d2.b.im+ht d2.c+(ht d0.a+ht d0.b.re+ht d0.b.im+ht d0.c)≤67108000)(p2:ht d2.a+ht d2.b.re+ht d2.b.im+ht d2.c+(ht d1.a+ht d1.b.re+ht d1.b.im+ht d1.c)≤67108000)(p3:ht d3.a+ht d3.b.re+ht d3.b.im+ht d3.c+(ht d0.a+ht d0.b.re+ht d0.b.im+ht d0.c)≤67108000)(p4:ht d3.a+ht d3.b.re+ht d3.b.im+ht d3.c+(ht d1.a+ht d1.b.re+ht d1.b.im+ht d1.c)≤67108000)(p5:ht d3.a+ht d3.b.re+ht d3.b.im+ht d3.c+(ht d2.a+ht d2.b.re+ht d2.b.im+ht d2.c)≤67108000):Calls Tryz.prog 89 #[.slice (some ⟨b0,0,none⟩) 4 (n0+4)] W (RetV (.bool ([d1.touch d0].all id&&[d2.touch d0,d2.touch d1].all id&&[d3.touch d0,d3.touch d1,d3.touch d2].all id)) W):=by
 refine Run.goP (S:=S) (Pack.nil.bm B0 4 (n0+4) 16 (AllF.app (ringCells t0_0) (AllF.app (ringCells t0_1) (AllF.app (ringCells t0_2) (ringCells t0_3))))) Tryz.func89 rfl ?_
 refine Run.cV [.bool (!([].all id))] kb (fun _ _ _ H=>cf0 (n0+4) d0 (H.bq 0 0) (H.b 1) (RingP.mk (H.f 0) (H.f 1) (H.f 2) (H.f 3))) ?_
 refine Run.kn (b:=false) rfl ?_
 refine Run.cV [.bool (!([d1.touch d0].all id))] kb (fun _ _ _ H=>cf1 (n0+4) d0 d1 (H.bq 0 4) (RingP.mk (H.f 0) (H.f 1) (H.f 2) (H.f 3)) (H.b 2) (RingP.mk (H.f 4) (H.f 5) (H.f 6) (H.f 7)) p0) ?_
 refine (Bool.eq_false_or_eq_true (!([d1.touch d0].all id))).elim (fun c1=>?_) (fun c1=>?_)
 · refine Run.kn c1 ?_
   exact Run.rV (V' := .bool false) ((congrArg Value.bool (by simp only [nF c1,Bool.and_false,Bool.false_and,Bool.and_true])))
 · refine Run.kn c1 ?_
   refine Run.cV [.bool (!([d2.touch d0,d2.touch d1].all id))] kb (fun _ _ _ H=>cf2 (n0+4) d0 d1 d2 (H.bq 0 8) (RingP.mk (H.f 0) (H.f 1) (H.f 2) (H.f 3)) (RingP.mk (H.f 4) (H.f 5) (H.f 6) (H.f 7)) (H.b 3) (RingP.mk (H.f 8) (H.f 9) (H.f 10) (H.f 11)) p1 p2) ?_
   refine (Bool.eq_false_or_eq_true (!([d2.touch d0,d2.touch d1].all id))).elim (fun c2=>?_) (fun c2=>?_)
   · refine Run.kn c2 ?_
     exact Run.rV (V' := .bool false) ((congrArg Value.bool (by simp only [nT c1,nF c2,Bool.and_false,Bool.false_and,Bool.and_true])))
   · refine Run.kn c2 ?_
     refine Run.cV [.bool (!([d3.touch d0,d3.touch d1,d3.touch d2].all id))] kb (fun _ _ _ H=>cf3 (n0+4) d0 d1 d2 d3 (H.bq 0 12) (RingP.mk (H.f 0) (H.f 1) (H.f 2) (H.f 3)) (RingP.mk (H.f 4) (H.f 5) (H.f 6) (H.f 7)) (RingP.mk (H.f 8) (H.f 9) (H.f 10) (H.f 11)) (H.b 4) (RingP.mk (H.f 12) (H.f 13) (H.f 14) (H.f 15)) p3 p4 p5) ?_
     refine (Bool.eq_false_or_eq_true (!([d3.touch d0,d3.touch d1,d3.touch d2].all id))).elim (fun c3=>?_) (fun c3=>?_)
     · refine Run.kn c3 ?_
       exact Run.rV (V' := .bool false) ((congrArg Value.bool (by simp only [nT c1,nT c2,nF c3,Bool.and_false,Bool.false_and,Bool.and_true])))
     · refine Run.kn c3 ?_
       exact Run.rV (V' := .bool true) ((congrArg Value.bool (by simp only [nT c1,nT c2,nT c3,Bool.and_false,Bool.false_and,Bool.and_true])))
theorem pl2Y{b0:Nat}(T0:TypeId)(d0 d1:Ci)(B0:W.heap[b0]? = some (.cells (⟨(ciC d0).toList++((ciC d1).toList)⟩) T0 (0,0)))(p0:dsOk (rci d0)=true)(p1:dsOk (rci d1)=true):Calls Tryz.prog 74 #[.slice (some ⟨b0,0,none⟩) 2 2] W (RetB 133 2 (ringF [d0,d1]) (.bool true) S W):=by
 refine Run.goP (S:=S) (Pack.nil.b B0 (some 2) 32) Tryz.func74 rfl ?_
 refine Run.cR (spRingC true) (fun _ _ _ H=>ePlateO d0 p0) ?_
 refine Run.a0 133 124 3 (fun cp1=>?_)
 refine Run.cR (spRingC true) (fun _ _ _ H=>ePlateO d1 p1) ?_
 refine Run.ap 124 4 1 cp1 7 (fun cp2=>?_)
 exact Run.rB 4 cp2
theorem pl3Y{b0:Nat}(T0:TypeId)(d0 d1 d2:Ci)(B0:W.heap[b0]? = some (.cells (⟨(ciC d0).toList++((ciC d1).toList++((ciC d2).toList))⟩) T0 (0,0)))(p0:dsOk (rci d0)=true)(p1:dsOk (rci d1)=true)(p2:dsOk (rci d2)=true):Calls Tryz.prog 74 #[.slice (some ⟨b0,0,none⟩) 3 3] W (RetB 133 3 (ringF [d0,d1,d2]) (.bool true) S W):=by
 refine Run.goP (S:=S) (Pack.nil.b B0 (some 3) 48) Tryz.func74 rfl ?_
 refine Run.cR (spRingC true) (fun _ _ _ H=>ePlateO d0 p0) ?_
 refine Run.a0 133 124 3 (fun cp1=>?_)
 refine Run.cR (spRingC true) (fun _ _ _ H=>ePlateO d1 p1) ?_
 refine Run.ap 124 4 1 cp1 7 (fun cp2=>?_)
 refine Run.cR (spRingC true) (fun _ _ _ H=>ePlateO d2 p2) ?_
 refine Run.ap 124 4 2 cp2 10 (fun cp3=>?_)
 exact Run.rB 4 cp3
theorem pl4Y{b0:Nat}(T0:TypeId)(d0 d1 d2 d3:Ci)(B0:W.heap[b0]? = some (.cells (⟨(ciC d0).toList++((ciC d1).toList++((ciC d2).toList++((ciC d3).toList)))⟩) T0 (0,0)))(p0:dsOk (rci d0)=true)(p1:dsOk (rci d1)=true)(p2:dsOk (rci d2)=true)(p3:dsOk (rci d3)=true):Calls Tryz.prog 74 #[.slice (some ⟨b0,0,none⟩) 4 4] W (RetB 133 4 (ringF [d0,d1,d2,d3]) (.bool true) S W):=by
 refine Run.goP (S:=S) (Pack.nil.b B0 (some 4) 64) Tryz.func74 rfl ?_
 refine Run.cR (spRingC true) (fun _ _ _ H=>ePlateO d0 p0) ?_
 refine Run.a0 133 124 3 (fun cp1=>?_)
 refine Run.cR (spRingC true) (fun _ _ _ H=>ePlateO d1 p1) ?_
 refine Run.ap 124 4 1 cp1 7 (fun cp2=>?_)
 refine Run.cR (spRingC true) (fun _ _ _ H=>ePlateO d2 p2) ?_
 refine Run.ap 124 4 2 cp2 10 (fun cp3=>?_)
 refine Run.cR (spRingC true) (fun _ _ _ H=>ePlateO d3 p3) ?_
 refine Run.ap 124 4 3 cp3 13 (fun cp4=>?_)
 exact Run.rB 4 cp4
theorem acm0{w1_0 w1_1 w1_2 w1_3 w1_4 w1_5 w1_6 w1_7 w1_8 w1_9 w1_10 w1_11:Value}{b1:Nat}(x0 x1 x2 x3 y0 y1 y2 y3 z0 z1 z2 z3:Rat)(B1:W.heap[b1]? = some (.cells #[w1_0,w1_1,w1_2,w1_3,w1_4,w1_5,w1_6,w1_7,w1_8,w1_9,w1_10,w1_11] 249 (0,0)))(hw1_0:(RatP x0).p S w1_0 W)(hw1_1:(RatP x1).p S w1_1 W)(hw1_2:(RatP x2).p S w1_2 W)(hw1_3:(RatP x3).p S w1_3 W)(hw1_4:(RatP y0).p S w1_4 W)(hw1_5:(RatP y1).p S w1_5 W)(hw1_6:(RatP y2).p S w1_6 W)(hw1_7:(RatP y3).p S w1_7 W)(hw1_8:(RatP z0).p S w1_8 W)(hw1_9:(RatP z1).p S w1_9 W)(hw1_10:(RatP z2).p S w1_10 W)(hw1_11:(RatP z3).p S w1_11 W)(p0:ht x0+ht x1+ht x2+ht x3≤40000)(p1:ht y0+ht y1+ht y2+ht y3≤40000)(p2:ht z0+ht z1+ht z2+ht z3≤40000):Calls Tryz.prog 184 #[.int .i64 0,.pointer (some ⟨b1,0,none⟩)] W (Ret (RatP (mn3 x1 x2 x3 y1 y2 y3 z1 z2 z3)) Z0 W):=by
 obtain⟨ex0,ex1,ex2,ex3,ey0,ey1,ey2,ey3,ez0,ez1,ez2,ez3⟩:ht x0≤40000∧ht x1≤40000∧ht x2≤40000∧ht x3≤40000∧ht y0≤40000∧ht y1≤40000∧ht y2≤40000∧ht y3≤40000∧ht z0≤40000∧ht z1≤40000∧ht z2≤40000∧ht z3≤40000:=by omega
 have k0:=hb_mul ey2 ez3 80000
 have k1:=hb_mul ey3 ez2 80000
 have k2:=hb_sub k0 k1 160000
 have k3:=hb_mul k2 ex1 200000
 have k4:=hb_add (Nat.le_of_eq ht_zero) k3 200002
 have k5:=hb_mul ey3 ez1 80000
 have k6:=hb_mul ey1 ez3 80000
 have k7:=hb_sub k5 k6 160000
 have k8:=hb_mul k7 ex2 200000
 have k9:=hb_add k4 k8 400002
 have k10:=hb_mul ey1 ez2 80000
 have k11:=hb_mul ey2 ez1 80000
 have k12:=hb_sub k10 k11 160000
 have k13:=hb_mul k12 ex3 200000
 have k14:=hb_add k9 k13 600002
 refine Run.goP (S:=S) ((Pack.nil.k (.int .i64 0) [] (.s (.o (.c (.int .i64 0))))).bv B1 none 12 (AllF.rat hw1_0 (AllF.rat hw1_1 (AllF.rat hw1_2 (AllF.rat hw1_3 (AllF.rat hw1_4 (AllF.rat hw1_5 (AllF.rat hw1_6 (AllF.rat hw1_7 (AllF.rat hw1_8 (AllF.rat hw1_9 (AllF.rat hw1_10 (AllF.rat hw1_11 AllF.z))))))))))))) Tryz.func184 rfl ?_
 refine Run.a0 3 31 1 (fun cp1=>?_)
 refine Run.ap 31 2 1 cp1 3 (fun cp2=>?_)
 refine Run.ap 31 2 2 cp2 4 (fun cp3=>?_)
 refine Run.dr ?_
 refine RunD.en ?_
 refine Run.dr ?_
 refine RunD.cO 6 softRat (fun _ _ _ H=>qMul y2 z3 (RatP.blk (H.oz 6)) (anyV (H.f 6)) (anyV (H.f 11)) (Nat.le_trans (Nat.add_le_add ey2 ez3) (by decide))) ?_
 refine RunD.en ?_
 refine Run.dr ?_
 refine RunD.cO 7 softRat (fun _ _ _ H=>qMul y3 z2 (RatP.blk (H.oz 7)) (anyV (H.f 7)) (anyV (H.f 10)) (Nat.le_trans (Nat.add_le_add ey3 ez2) (by decide))) ?_
 refine RunD.cO 6 softRat (fun _ _ _ H=>qSub (y2*z3) (y3*z2) (RatP.blk (q:=y2*z3) (H.o 6)) (anyV (H.o 6)) (anyV (H.o 7)) (Nat.le_trans (Nat.add_le_add k0 k1) (by decide))) ?_
 refine RunD.en ?_
 refine Run.cO 6 softRat (fun _ _ _ H=>qMul ((y2*z3)-(y3*z2)) x1 (RatP.blk (q:=(y2*z3)-(y3*z2)) (H.o 6)) (anyV (H.o 6)) (anyV (H.f 1)) (Nat.le_trans (Nat.add_le_add k2 ex1) (by decide))) ?_
 refine Run.cO 5 softRat (fun _ _ _ H=>qAdd (0:Rat) (((y2*z3)-(y3*z2))*x1) (RatP.blk (H.oz 5)) (anyV (H.oz 5)) (anyV (H.o 6)) (Nat.le_trans (Nat.add_le_add (Nat.le_of_eq ht_zero) k3) (by decide))) ?_
 refine Run.dr ?_
 refine RunD.en ?_
 refine Run.dr ?_
 refine RunD.cO 8 softRat (fun _ _ _ H=>qMul y3 z1 (RatP.blk (H.oz 8)) (anyV (H.f 7)) (anyV (H.f 9)) (Nat.le_trans (Nat.add_le_add ey3 ez1) (by decide))) ?_
 refine RunD.en ?_
 refine Run.dr ?_
 refine RunD.cO 9 softRat (fun _ _ _ H=>qMul y1 z3 (RatP.blk (H.oz 9)) (anyV (H.f 5)) (anyV (H.f 11)) (Nat.le_trans (Nat.add_le_add ey1 ez3) (by decide))) ?_
 refine RunD.cO 8 softRat (fun _ _ _ H=>qSub (y3*z1) (y1*z3) (RatP.blk (q:=y3*z1) (H.o 8)) (anyV (H.o 8)) (anyV (H.o 9)) (Nat.le_trans (Nat.add_le_add k5 k6) (by decide))) ?_
 refine RunD.en ?_
 refine Run.cO 8 softRat (fun _ _ _ H=>qMul ((y3*z1)-(y1*z3)) x2 (RatP.blk (q:=(y3*z1)-(y1*z3)) (H.o 8)) (anyV (H.o 8)) (anyV (H.f 2)) (Nat.le_trans (Nat.add_le_add k7 ex2) (by decide))) ?_
 refine Run.cO 5 softRat (fun _ _ _ H=>qAdd ((0:Rat)+(((y2*z3)-(y3*z2))*x1)) (((y3*z1)-(y1*z3))*x2) (RatP.blk (q:=(0:Rat)+(((y2*z3)-(y3*z2))*x1)) (H.o 5)) (anyV (H.o 5)) (anyV (H.o 8)) (Nat.le_trans (Nat.add_le_add k4 k8) (by decide))) ?_
 refine Run.dr ?_
 refine RunD.en ?_
 refine Run.dr ?_
 refine RunD.cO 10 softRat (fun _ _ _ H=>qMul y1 z2 (RatP.blk (H.oz 10)) (anyV (H.f 5)) (anyV (H.f 10)) (Nat.le_trans (Nat.add_le_add ey1 ez2) (by decide))) ?_
 refine RunD.en ?_
 refine Run.dr ?_
 refine RunD.cO 11 softRat (fun _ _ _ H=>qMul y2 z1 (RatP.blk (H.oz 11)) (anyV (H.f 6)) (anyV (H.f 9)) (Nat.le_trans (Nat.add_le_add ey2 ez1) (by decide))) ?_
 refine RunD.cO 10 softRat (fun _ _ _ H=>qSub (y1*z2) (y2*z1) (RatP.blk (q:=y1*z2) (H.o 10)) (anyV (H.o 10)) (anyV (H.o 11)) (Nat.le_trans (Nat.add_le_add k10 k11) (by decide))) ?_
 refine RunD.en ?_
 refine Run.cO 10 softRat (fun _ _ _ H=>qMul ((y1*z2)-(y2*z1)) x3 (RatP.blk (q:=(y1*z2)-(y2*z1)) (H.o 10)) (anyV (H.o 10)) (anyV (H.f 3)) (Nat.le_trans (Nat.add_le_add k12 ex3) (by decide))) ?_
 refine Run.cO 5 softRat (fun _ _ _ H=>qAdd (((0:Rat)+(((y2*z3)-(y3*z2))*x1))+(((y3*z1)-(y1*z3))*x2)) (((y1*z2)-(y2*z1))*x3) (RatP.blk (q:=((0:Rat)+(((y2*z3)-(y3*z2))*x1))+(((y3*z1)-(y1*z3))*x2)) (H.o 5)) (anyV (H.o 5)) (anyV (H.o 10)) (Nat.le_trans (Nat.add_le_add k9 k13) (by decide))) ?_
 exact Run.rN (φ:=RatP (mn3 x1 x2 x3 y1 y2 y3 z1 z2 z3)) 5 (fun _ _ _ H=>⟨H.ow 5,VPe (φ:=RatP) (rfl) (H.o 5)⟩)
theorem acm1{w1_0 w1_1 w1_2 w1_3 w1_4 w1_5 w1_6 w1_7 w1_8 w1_9 w1_10 w1_11:Value}{b1:Nat}(x0 x1 x2 x3 y0 y1 y2 y3 z0 z1 z2 z3:Rat)(B1:W.heap[b1]? = some (.cells #[w1_0,w1_1,w1_2,w1_3,w1_4,w1_5,w1_6,w1_7,w1_8,w1_9,w1_10,w1_11] 249 (0,0)))(hw1_0:(RatP x0).p S w1_0 W)(hw1_1:(RatP x1).p S w1_1 W)(hw1_2:(RatP x2).p S w1_2 W)(hw1_3:(RatP x3).p S w1_3 W)(hw1_4:(RatP y0).p S w1_4 W)(hw1_5:(RatP y1).p S w1_5 W)(hw1_6:(RatP y2).p S w1_6 W)(hw1_7:(RatP y3).p S w1_7 W)(hw1_8:(RatP z0).p S w1_8 W)(hw1_9:(RatP z1).p S w1_9 W)(hw1_10:(RatP z2).p S w1_10 W)(hw1_11:(RatP z3).p S w1_11 W)(p0:ht x0+ht x1+ht x2+ht x3≤40000)(p1:ht y0+ht y1+ht y2+ht y3≤40000)(p2:ht z0+ht z1+ht z2+ht z3≤40000):Calls Tryz.prog 184 #[.int .i64 1,.pointer (some ⟨b1,0,none⟩)] W (Ret (RatP (-(mn3 x0 x2 x3 y0 y2 y3 z0 z2 z3))) Z0 W):=by
 obtain⟨ex0,ex1,ex2,ex3,ey0,ey1,ey2,ey3,ez0,ez1,ez2,ez3⟩:ht x0≤40000∧ht x1≤40000∧ht x2≤40000∧ht x3≤40000∧ht y0≤40000∧ht y1≤40000∧ht y2≤40000∧ht y3≤40000∧ht z0≤40000∧ht z1≤40000∧ht z2≤40000∧ht z3≤40000:=by omega
 have k0:=hb_mul ey2 ez3 80000
 have k1:=hb_mul ey3 ez2 80000
 have k2:=hb_sub k0 k1 160000
 have k3:=hb_mul k2 ex0 200000
 have k4:=hb_add (Nat.le_of_eq ht_zero) k3 200002
 have k5:=hb_mul ey3 ez0 80000
 have k6:=hb_mul ey0 ez3 80000
 have k7:=hb_sub k5 k6 160000
 have k8:=hb_mul k7 ex2 200000
 have k9:=hb_add k4 k8 400002
 have k10:=hb_mul ey0 ez2 80000
 have k11:=hb_mul ey2 ez0 80000
 have k12:=hb_sub k10 k11 160000
 have k13:=hb_mul k12 ex3 200000
 have k14:=hb_add k9 k13 600002
 have k15:=hb_neg k14
 refine Run.goP (S:=S) ((Pack.nil.k (.int .i64 1) [] (.s (.o (.c (.int .i64 1))))).bv B1 none 12 (AllF.rat hw1_0 (AllF.rat hw1_1 (AllF.rat hw1_2 (AllF.rat hw1_3 (AllF.rat hw1_4 (AllF.rat hw1_5 (AllF.rat hw1_6 (AllF.rat hw1_7 (AllF.rat hw1_8 (AllF.rat hw1_9 (AllF.rat hw1_10 (AllF.rat hw1_11 AllF.z))))))))))))) Tryz.func184 rfl ?_
 refine Run.a0 3 31 1 (fun cp1=>?_)
 refine Run.ap 31 2 1 cp1 3 (fun cp2=>?_)
 refine Run.ap 31 2 2 cp2 4 (fun cp3=>?_)
 refine Run.dr ?_
 refine RunD.en ?_
 refine Run.dr ?_
 refine RunD.cO 6 softRat (fun _ _ _ H=>qMul y2 z3 (RatP.blk (H.oz 6)) (anyV (H.f 6)) (anyV (H.f 11)) (Nat.le_trans (Nat.add_le_add ey2 ez3) (by decide))) ?_
 refine RunD.en ?_
 refine Run.dr ?_
 refine RunD.cO 7 softRat (fun _ _ _ H=>qMul y3 z2 (RatP.blk (H.oz 7)) (anyV (H.f 7)) (anyV (H.f 10)) (Nat.le_trans (Nat.add_le_add ey3 ez2) (by decide))) ?_
 refine RunD.cO 6 softRat (fun _ _ _ H=>qSub (y2*z3) (y3*z2) (RatP.blk (q:=y2*z3) (H.o 6)) (anyV (H.o 6)) (anyV (H.o 7)) (Nat.le_trans (Nat.add_le_add k0 k1) (by decide))) ?_
 refine RunD.en ?_
 refine Run.cO 6 softRat (fun _ _ _ H=>qMul ((y2*z3)-(y3*z2)) x0 (RatP.blk (q:=(y2*z3)-(y3*z2)) (H.o 6)) (anyV (H.o 6)) (anyV (H.f 0)) (Nat.le_trans (Nat.add_le_add k2 ex0) (by decide))) ?_
 refine Run.cO 5 softRat (fun _ _ _ H=>qAdd (0:Rat) (((y2*z3)-(y3*z2))*x0) (RatP.blk (H.oz 5)) (anyV (H.oz 5)) (anyV (H.o 6)) (Nat.le_trans (Nat.add_le_add (Nat.le_of_eq ht_zero) k3) (by decide))) ?_
 refine Run.dr ?_
 refine RunD.en ?_
 refine Run.dr ?_
 refine RunD.cO 8 softRat (fun _ _ _ H=>qMul y3 z0 (RatP.blk (H.oz 8)) (anyV (H.f 7)) (anyV (H.f 8)) (Nat.le_trans (Nat.add_le_add ey3 ez0) (by decide))) ?_
 refine RunD.en ?_
 refine Run.dr ?_
 refine RunD.cO 9 softRat (fun _ _ _ H=>qMul y0 z3 (RatP.blk (H.oz 9)) (anyV (H.f 4)) (anyV (H.f 11)) (Nat.le_trans (Nat.add_le_add ey0 ez3) (by decide))) ?_
 refine RunD.cO 8 softRat (fun _ _ _ H=>qSub (y3*z0) (y0*z3) (RatP.blk (q:=y3*z0) (H.o 8)) (anyV (H.o 8)) (anyV (H.o 9)) (Nat.le_trans (Nat.add_le_add k5 k6) (by decide))) ?_
 refine RunD.en ?_
 refine Run.cO 8 softRat (fun _ _ _ H=>qMul ((y3*z0)-(y0*z3)) x2 (RatP.blk (q:=(y3*z0)-(y0*z3)) (H.o 8)) (anyV (H.o 8)) (anyV (H.f 2)) (Nat.le_trans (Nat.add_le_add k7 ex2) (by decide))) ?_
 refine Run.cO 5 softRat (fun _ _ _ H=>qAdd ((0:Rat)+(((y2*z3)-(y3*z2))*x0)) (((y3*z0)-(y0*z3))*x2) (RatP.blk (q:=(0:Rat)+(((y2*z3)-(y3*z2))*x0)) (H.o 5)) (anyV (H.o 5)) (anyV (H.o 8)) (Nat.le_trans (Nat.add_le_add k4 k8) (by decide))) ?_
 refine Run.dr ?_
 refine RunD.en ?_
 refine Run.dr ?_
 refine RunD.cO 10 softRat (fun _ _ _ H=>qMul y0 z2 (RatP.blk (H.oz 10)) (anyV (H.f 4)) (anyV (H.f 10)) (Nat.le_trans (Nat.add_le_add ey0 ez2) (by decide))) ?_
 refine RunD.en ?_
 refine Run.dr ?_
 refine RunD.cO 11 softRat (fun _ _ _ H=>qMul y2 z0 (RatP.blk (H.oz 11)) (anyV (H.f 6)) (anyV (H.f 8)) (Nat.le_trans (Nat.add_le_add ey2 ez0) (by decide))) ?_
 refine RunD.cO 10 softRat (fun _ _ _ H=>qSub (y0*z2) (y2*z0) (RatP.blk (q:=y0*z2) (H.o 10)) (anyV (H.o 10)) (anyV (H.o 11)) (Nat.le_trans (Nat.add_le_add k10 k11) (by decide))) ?_
 refine RunD.en ?_
 refine Run.cO 10 softRat (fun _ _ _ H=>qMul ((y0*z2)-(y2*z0)) x3 (RatP.blk (q:=(y0*z2)-(y2*z0)) (H.o 10)) (anyV (H.o 10)) (anyV (H.f 3)) (Nat.le_trans (Nat.add_le_add k12 ex3) (by decide))) ?_
 refine Run.cO 5 softRat (fun _ _ _ H=>qAdd (((0:Rat)+(((y2*z3)-(y3*z2))*x0))+(((y3*z0)-(y0*z3))*x2)) (((y0*z2)-(y2*z0))*x3) (RatP.blk (q:=((0:Rat)+(((y2*z3)-(y3*z2))*x0))+(((y3*z0)-(y0*z3))*x2)) (H.o 5)) (anyV (H.o 5)) (anyV (H.o 10)) (Nat.le_trans (Nat.add_le_add k9 k13) (by decide))) ?_
 refine Run.cO 5 softRat (fun _ _ _ H=>qNeg ((((0:Rat)+(((y2*z3)-(y3*z2))*x0))+(((y3*z0)-(y0*z3))*x2))+(((y0*z2)-(y2*z0))*x3)) (RatP.blk (q:=(((0:Rat)+(((y2*z3)-(y3*z2))*x0))+(((y3*z0)-(y0*z3))*x2))+(((y0*z2)-(y2*z0))*x3)) (H.o 5)) (anyV (H.o 5)) (Nat.le_trans k14 (by decide))) ?_
 exact Run.rN (φ:=RatP (-(mn3 x0 x2 x3 y0 y2 y3 z0 z2 z3))) 5 (fun _ _ _ H=>⟨H.ow 5,VPe (φ:=RatP) (rfl) (H.o 5)⟩)
theorem acm2{w1_0 w1_1 w1_2 w1_3 w1_4 w1_5 w1_6 w1_7 w1_8 w1_9 w1_10 w1_11:Value}{b1:Nat}(x0 x1 x2 x3 y0 y1 y2 y3 z0 z1 z2 z3:Rat)(B1:W.heap[b1]? = some (.cells #[w1_0,w1_1,w1_2,w1_3,w1_4,w1_5,w1_6,w1_7,w1_8,w1_9,w1_10,w1_11] 249 (0,0)))(hw1_0:(RatP x0).p S w1_0 W)(hw1_1:(RatP x1).p S w1_1 W)(hw1_2:(RatP x2).p S w1_2 W)(hw1_3:(RatP x3).p S w1_3 W)(hw1_4:(RatP y0).p S w1_4 W)(hw1_5:(RatP y1).p S w1_5 W)(hw1_6:(RatP y2).p S w1_6 W)(hw1_7:(RatP y3).p S w1_7 W)(hw1_8:(RatP z0).p S w1_8 W)(hw1_9:(RatP z1).p S w1_9 W)(hw1_10:(RatP z2).p S w1_10 W)(hw1_11:(RatP z3).p S w1_11 W)(p0:ht x0+ht x1+ht x2+ht x3≤40000)(p1:ht y0+ht y1+ht y2+ht y3≤40000)(p2:ht z0+ht z1+ht z2+ht z3≤40000):Calls Tryz.prog 184 #[.int .i64 2,.pointer (some ⟨b1,0,none⟩)] W (Ret (RatP (mn3 x0 x1 x3 y0 y1 y3 z0 z1 z3)) Z0 W):=by
 obtain⟨ex0,ex1,ex2,ex3,ey0,ey1,ey2,ey3,ez0,ez1,ez2,ez3⟩:ht x0≤40000∧ht x1≤40000∧ht x2≤40000∧ht x3≤40000∧ht y0≤40000∧ht y1≤40000∧ht y2≤40000∧ht y3≤40000∧ht z0≤40000∧ht z1≤40000∧ht z2≤40000∧ht z3≤40000:=by omega
 have k0:=hb_mul ey1 ez3 80000
 have k1:=hb_mul ey3 ez1 80000
 have k2:=hb_sub k0 k1 160000
 have k3:=hb_mul k2 ex0 200000
 have k4:=hb_add (Nat.le_of_eq ht_zero) k3 200002
 have k5:=hb_mul ey3 ez0 80000
 have k6:=hb_mul ey0 ez3 80000
 have k7:=hb_sub k5 k6 160000
 have k8:=hb_mul k7 ex1 200000
 have k9:=hb_add k4 k8 400002
 have k10:=hb_mul ey0 ez1 80000
 have k11:=hb_mul ey1 ez0 80000
 have k12:=hb_sub k10 k11 160000
 have k13:=hb_mul k12 ex3 200000
 have k14:=hb_add k9 k13 600002
 refine Run.goP (S:=S) ((Pack.nil.k (.int .i64 2) [] (.s (.o (.c (.int .i64 2))))).bv B1 none 12 (AllF.rat hw1_0 (AllF.rat hw1_1 (AllF.rat hw1_2 (AllF.rat hw1_3 (AllF.rat hw1_4 (AllF.rat hw1_5 (AllF.rat hw1_6 (AllF.rat hw1_7 (AllF.rat hw1_8 (AllF.rat hw1_9 (AllF.rat hw1_10 (AllF.rat hw1_11 AllF.z))))))))))))) Tryz.func184 rfl ?_
 refine Run.a0 3 31 1 (fun cp1=>?_)
 refine Run.ap 31 2 1 cp1 3 (fun cp2=>?_)
 refine Run.ap 31 2 2 cp2 4 (fun cp3=>?_)
 refine Run.dr ?_
 refine RunD.en ?_
 refine Run.dr ?_
 refine RunD.cO 6 softRat (fun _ _ _ H=>qMul y1 z3 (RatP.blk (H.oz 6)) (anyV (H.f 5)) (anyV (H.f 11)) (Nat.le_trans (Nat.add_le_add ey1 ez3) (by decide))) ?_
 refine RunD.en ?_
 refine Run.dr ?_
 refine RunD.cO 7 softRat (fun _ _ _ H=>qMul y3 z1 (RatP.blk (H.oz 7)) (anyV (H.f 7)) (anyV (H.f 9)) (Nat.le_trans (Nat.add_le_add ey3 ez1) (by decide))) ?_
 refine RunD.cO 6 softRat (fun _ _ _ H=>qSub (y1*z3) (y3*z1) (RatP.blk (q:=y1*z3) (H.o 6)) (anyV (H.o 6)) (anyV (H.o 7)) (Nat.le_trans (Nat.add_le_add k0 k1) (by decide))) ?_
 refine RunD.en ?_
 refine Run.cO 6 softRat (fun _ _ _ H=>qMul ((y1*z3)-(y3*z1)) x0 (RatP.blk (q:=(y1*z3)-(y3*z1)) (H.o 6)) (anyV (H.o 6)) (anyV (H.f 0)) (Nat.le_trans (Nat.add_le_add k2 ex0) (by decide))) ?_
 refine Run.cO 5 softRat (fun _ _ _ H=>qAdd (0:Rat) (((y1*z3)-(y3*z1))*x0) (RatP.blk (H.oz 5)) (anyV (H.oz 5)) (anyV (H.o 6)) (Nat.le_trans (Nat.add_le_add (Nat.le_of_eq ht_zero) k3) (by decide))) ?_
 refine Run.dr ?_
 refine RunD.en ?_
 refine Run.dr ?_
 refine RunD.cO 8 softRat (fun _ _ _ H=>qMul y3 z0 (RatP.blk (H.oz 8)) (anyV (H.f 7)) (anyV (H.f 8)) (Nat.le_trans (Nat.add_le_add ey3 ez0) (by decide))) ?_
 refine RunD.en ?_
 refine Run.dr ?_
 refine RunD.cO 9 softRat (fun _ _ _ H=>qMul y0 z3 (RatP.blk (H.oz 9)) (anyV (H.f 4)) (anyV (H.f 11)) (Nat.le_trans (Nat.add_le_add ey0 ez3) (by decide))) ?_
 refine RunD.cO 8 softRat (fun _ _ _ H=>qSub (y3*z0) (y0*z3) (RatP.blk (q:=y3*z0) (H.o 8)) (anyV (H.o 8)) (anyV (H.o 9)) (Nat.le_trans (Nat.add_le_add k5 k6) (by decide))) ?_
 refine RunD.en ?_
 refine Run.cO 8 softRat (fun _ _ _ H=>qMul ((y3*z0)-(y0*z3)) x1 (RatP.blk (q:=(y3*z0)-(y0*z3)) (H.o 8)) (anyV (H.o 8)) (anyV (H.f 1)) (Nat.le_trans (Nat.add_le_add k7 ex1) (by decide))) ?_
 refine Run.cO 5 softRat (fun _ _ _ H=>qAdd ((0:Rat)+(((y1*z3)-(y3*z1))*x0)) (((y3*z0)-(y0*z3))*x1) (RatP.blk (q:=(0:Rat)+(((y1*z3)-(y3*z1))*x0)) (H.o 5)) (anyV (H.o 5)) (anyV (H.o 8)) (Nat.le_trans (Nat.add_le_add k4 k8) (by decide))) ?_
 refine Run.dr ?_
 refine RunD.en ?_
 refine Run.dr ?_
 refine RunD.cO 10 softRat (fun _ _ _ H=>qMul y0 z1 (RatP.blk (H.oz 10)) (anyV (H.f 4)) (anyV (H.f 9)) (Nat.le_trans (Nat.add_le_add ey0 ez1) (by decide))) ?_
 refine RunD.en ?_
 refine Run.dr ?_
 refine RunD.cO 11 softRat (fun _ _ _ H=>qMul y1 z0 (RatP.blk (H.oz 11)) (anyV (H.f 5)) (anyV (H.f 8)) (Nat.le_trans (Nat.add_le_add ey1 ez0) (by decide))) ?_
 refine RunD.cO 10 softRat (fun _ _ _ H=>qSub (y0*z1) (y1*z0) (RatP.blk (q:=y0*z1) (H.o 10)) (anyV (H.o 10)) (anyV (H.o 11)) (Nat.le_trans (Nat.add_le_add k10 k11) (by decide))) ?_
 refine RunD.en ?_
 refine Run.cO 10 softRat (fun _ _ _ H=>qMul ((y0*z1)-(y1*z0)) x3 (RatP.blk (q:=(y0*z1)-(y1*z0)) (H.o 10)) (anyV (H.o 10)) (anyV (H.f 3)) (Nat.le_trans (Nat.add_le_add k12 ex3) (by decide))) ?_
 refine Run.cO 5 softRat (fun _ _ _ H=>qAdd (((0:Rat)+(((y1*z3)-(y3*z1))*x0))+(((y3*z0)-(y0*z3))*x1)) (((y0*z1)-(y1*z0))*x3) (RatP.blk (q:=((0:Rat)+(((y1*z3)-(y3*z1))*x0))+(((y3*z0)-(y0*z3))*x1)) (H.o 5)) (anyV (H.o 5)) (anyV (H.o 10)) (Nat.le_trans (Nat.add_le_add k9 k13) (by decide))) ?_
 exact Run.rN (φ:=RatP (mn3 x0 x1 x3 y0 y1 y3 z0 z1 z3)) 5 (fun _ _ _ H=>⟨H.ow 5,VPe (φ:=RatP) (rfl) (H.o 5)⟩)
theorem acm3{w1_0 w1_1 w1_2 w1_3 w1_4 w1_5 w1_6 w1_7 w1_8 w1_9 w1_10 w1_11:Value}{b1:Nat}(x0 x1 x2 x3 y0 y1 y2 y3 z0 z1 z2 z3:Rat)(B1:W.heap[b1]? = some (.cells #[w1_0,w1_1,w1_2,w1_3,w1_4,w1_5,w1_6,w1_7,w1_8,w1_9,w1_10,w1_11] 249 (0,0)))(hw1_0:(RatP x0).p S w1_0 W)(hw1_1:(RatP x1).p S w1_1 W)(hw1_2:(RatP x2).p S w1_2 W)(hw1_3:(RatP x3).p S w1_3 W)(hw1_4:(RatP y0).p S w1_4 W)(hw1_5:(RatP y1).p S w1_5 W)(hw1_6:(RatP y2).p S w1_6 W)(hw1_7:(RatP y3).p S w1_7 W)(hw1_8:(RatP z0).p S w1_8 W)(hw1_9:(RatP z1).p S w1_9 W)(hw1_10:(RatP z2).p S w1_10 W)(hw1_11:(RatP z3).p S w1_11 W)(p0:ht x0+ht x1+ht x2+ht x3≤40000)(p1:ht y0+ht y1+ht y2+ht y3≤40000)(p2:ht z0+ht z1+ht z2+ht z3≤40000):Calls Tryz.prog 184 #[.int .i64 3,.pointer (some ⟨b1,0,none⟩)] W (Ret (RatP (-(mn3 x0 x1 x2 y0 y1 y2 z0 z1 z2))) Z0 W):=by
 obtain⟨ex0,ex1,ex2,ex3,ey0,ey1,ey2,ey3,ez0,ez1,ez2,ez3⟩:ht x0≤40000∧ht x1≤40000∧ht x2≤40000∧ht x3≤40000∧ht y0≤40000∧ht y1≤40000∧ht y2≤40000∧ht y3≤40000∧ht z0≤40000∧ht z1≤40000∧ht z2≤40000∧ht z3≤40000:=by omega
 have k0:=hb_mul ey1 ez2 80000
 have k1:=hb_mul ey2 ez1 80000
 have k2:=hb_sub k0 k1 160000
 have k3:=hb_mul k2 ex0 200000
 have k4:=hb_add (Nat.le_of_eq ht_zero) k3 200002
 have k5:=hb_mul ey2 ez0 80000
 have k6:=hb_mul ey0 ez2 80000
 have k7:=hb_sub k5 k6 160000
 have k8:=hb_mul k7 ex1 200000
 have k9:=hb_add k4 k8 400002
 have k10:=hb_mul ey0 ez1 80000
 have k11:=hb_mul ey1 ez0 80000
 have k12:=hb_sub k10 k11 160000
 have k13:=hb_mul k12 ex2 200000
 have k14:=hb_add k9 k13 600002
 have k15:=hb_neg k14
 refine Run.goP (S:=S) ((Pack.nil.k (.int .i64 3) [] (.s (.o (.c (.int .i64 3))))).bv B1 none 12 (AllF.rat hw1_0 (AllF.rat hw1_1 (AllF.rat hw1_2 (AllF.rat hw1_3 (AllF.rat hw1_4 (AllF.rat hw1_5 (AllF.rat hw1_6 (AllF.rat hw1_7 (AllF.rat hw1_8 (AllF.rat hw1_9 (AllF.rat hw1_10 (AllF.rat hw1_11 AllF.z))))))))))))) Tryz.func184 rfl ?_
 refine Run.a0 3 31 1 (fun cp1=>?_)
 refine Run.ap 31 2 1 cp1 3 (fun cp2=>?_)
 refine Run.ap 31 2 2 cp2 4 (fun cp3=>?_)
 refine Run.dr ?_
 refine RunD.en ?_
 refine Run.dr ?_
 refine RunD.cO 6 softRat (fun _ _ _ H=>qMul y1 z2 (RatP.blk (H.oz 6)) (anyV (H.f 5)) (anyV (H.f 10)) (Nat.le_trans (Nat.add_le_add ey1 ez2) (by decide))) ?_
 refine RunD.en ?_
 refine Run.dr ?_
 refine RunD.cO 7 softRat (fun _ _ _ H=>qMul y2 z1 (RatP.blk (H.oz 7)) (anyV (H.f 6)) (anyV (H.f 9)) (Nat.le_trans (Nat.add_le_add ey2 ez1) (by decide))) ?_
 refine RunD.cO 6 softRat (fun _ _ _ H=>qSub (y1*z2) (y2*z1) (RatP.blk (q:=y1*z2) (H.o 6)) (anyV (H.o 6)) (anyV (H.o 7)) (Nat.le_trans (Nat.add_le_add k0 k1) (by decide))) ?_
 refine RunD.en ?_
 refine Run.cO 6 softRat (fun _ _ _ H=>qMul ((y1*z2)-(y2*z1)) x0 (RatP.blk (q:=(y1*z2)-(y2*z1)) (H.o 6)) (anyV (H.o 6)) (anyV (H.f 0)) (Nat.le_trans (Nat.add_le_add k2 ex0) (by decide))) ?_
 refine Run.cO 5 softRat (fun _ _ _ H=>qAdd (0:Rat) (((y1*z2)-(y2*z1))*x0) (RatP.blk (H.oz 5)) (anyV (H.oz 5)) (anyV (H.o 6)) (Nat.le_trans (Nat.add_le_add (Nat.le_of_eq ht_zero) k3) (by decide))) ?_
 refine Run.dr ?_
 refine RunD.en ?_
 refine Run.dr ?_
 refine RunD.cO 8 softRat (fun _ _ _ H=>qMul y2 z0 (RatP.blk (H.oz 8)) (anyV (H.f 6)) (anyV (H.f 8)) (Nat.le_trans (Nat.add_le_add ey2 ez0) (by decide))) ?_
 refine RunD.en ?_
 refine Run.dr ?_
 refine RunD.cO 9 softRat (fun _ _ _ H=>qMul y0 z2 (RatP.blk (H.oz 9)) (anyV (H.f 4)) (anyV (H.f 10)) (Nat.le_trans (Nat.add_le_add ey0 ez2) (by decide))) ?_
 refine RunD.cO 8 softRat (fun _ _ _ H=>qSub (y2*z0) (y0*z2) (RatP.blk (q:=y2*z0) (H.o 8)) (anyV (H.o 8)) (anyV (H.o 9)) (Nat.le_trans (Nat.add_le_add k5 k6) (by decide))) ?_
 refine RunD.en ?_
 refine Run.cO 8 softRat (fun _ _ _ H=>qMul ((y2*z0)-(y0*z2)) x1 (RatP.blk (q:=(y2*z0)-(y0*z2)) (H.o 8)) (anyV (H.o 8)) (anyV (H.f 1)) (Nat.le_trans (Nat.add_le_add k7 ex1) (by decide))) ?_
 refine Run.cO 5 softRat (fun _ _ _ H=>qAdd ((0:Rat)+(((y1*z2)-(y2*z1))*x0)) (((y2*z0)-(y0*z2))*x1) (RatP.blk (q:=(0:Rat)+(((y1*z2)-(y2*z1))*x0)) (H.o 5)) (anyV (H.o 5)) (anyV (H.o 8)) (Nat.le_trans (Nat.add_le_add k4 k8) (by decide))) ?_
 refine Run.dr ?_
 refine RunD.en ?_
 refine Run.dr ?_
 refine RunD.cO 10 softRat (fun _ _ _ H=>qMul y0 z1 (RatP.blk (H.oz 10)) (anyV (H.f 4)) (anyV (H.f 9)) (Nat.le_trans (Nat.add_le_add ey0 ez1) (by decide))) ?_
 refine RunD.en ?_
 refine Run.dr ?_
 refine RunD.cO 11 softRat (fun _ _ _ H=>qMul y1 z0 (RatP.blk (H.oz 11)) (anyV (H.f 5)) (anyV (H.f 8)) (Nat.le_trans (Nat.add_le_add ey1 ez0) (by decide))) ?_
 refine RunD.cO 10 softRat (fun _ _ _ H=>qSub (y0*z1) (y1*z0) (RatP.blk (q:=y0*z1) (H.o 10)) (anyV (H.o 10)) (anyV (H.o 11)) (Nat.le_trans (Nat.add_le_add k10 k11) (by decide))) ?_
 refine RunD.en ?_
 refine Run.cO 10 softRat (fun _ _ _ H=>qMul ((y0*z1)-(y1*z0)) x2 (RatP.blk (q:=(y0*z1)-(y1*z0)) (H.o 10)) (anyV (H.o 10)) (anyV (H.f 2)) (Nat.le_trans (Nat.add_le_add k12 ex2) (by decide))) ?_
 refine Run.cO 5 softRat (fun _ _ _ H=>qAdd (((0:Rat)+(((y1*z2)-(y2*z1))*x0))+(((y2*z0)-(y0*z2))*x1)) (((y0*z1)-(y1*z0))*x2) (RatP.blk (q:=((0:Rat)+(((y1*z2)-(y2*z1))*x0))+(((y2*z0)-(y0*z2))*x1)) (H.o 5)) (anyV (H.o 5)) (anyV (H.o 10)) (Nat.le_trans (Nat.add_le_add k9 k13) (by decide))) ?_
 refine Run.cO 5 softRat (fun _ _ _ H=>qNeg ((((0:Rat)+(((y1*z2)-(y2*z1))*x0))+(((y2*z0)-(y0*z2))*x1))+(((y0*z1)-(y1*z0))*x2)) (RatP.blk (q:=(((0:Rat)+(((y1*z2)-(y2*z1))*x0))+(((y2*z0)-(y0*z2))*x1))+(((y0*z1)-(y1*z0))*x2)) (H.o 5)) (anyV (H.o 5)) (Nat.le_trans k14 (by decide))) ?_
 exact Run.rN (φ:=RatP (-(mn3 x0 x1 x2 y0 y1 y2 z0 z1 z2))) 5 (fun _ _ _ H=>⟨H.ow 5,VPe (φ:=RatP) (rfl) (H.o 5)⟩)
theorem acr{w0_0 w0_1 w0_2 w0_3 w0_4 w0_5 w0_6 w0_7 w0_8 w0_9 w0_10 w0_11:Value}{b0:Nat}(n0:Nat)(d0 d1 d2:Ci)(B0:∃ r:List Value,W.heap[b0]? = some (.cells ⟨[w0_0,w0_1,w0_2,w0_3,w0_4,w0_5,w0_6,w0_7,w0_8,w0_9,w0_10,w0_11]++r⟩ 133 (0,0)))(t0_0:(RingP d0).p S (.agg #[w0_0,w0_1,w0_2,w0_3]) W)(t0_1:(RingP d1).p S (.agg #[w0_4,w0_5,w0_6,w0_7]) W)(t0_2:(RingP d2).p S (.agg #[w0_8,w0_9,w0_10,w0_11]) W)(p0:ht d0.a+ht d0.b.re+ht d0.b.im+ht d0.c≤40000)(p1:ht d1.a+ht d1.b.re+ht d1.b.im+ht d1.c≤40000)(p2:ht d2.a+ht d2.b.re+ht d2.b.im+ht d2.c≤40000):Calls Tryz.prog 90 #[.slice (some ⟨b0,0,none⟩) 3 (n0+3)] W (Ret (RingP (Ci.acr d0 d1 d2)) S W):=by
 obtain⟨ead0,ebd0,ecd0⟩:=hb_ci p0
 obtain⟨ead1,ebd1,ecd1⟩:=hb_ci p1
 obtain⟨ead2,ebd2,ecd2⟩:=hb_ci p2
 have k0:=mn3_hb ead0 ecd0 ebd0.2 ead1 ecd1 ebd1.2 ead2 ecd2 ebd2.2
 have k1:=hb_neg (mn3_hb ead0 ecd0 ebd0.1 ead1 ecd1 ebd1.1 ead2 ecd2 ebd2.1)
 have k2:=HB.mul (HB.two (z:=Cx.mk (- (mn3 d0.a d0.c d0.b.re d1.a d1.c d1.b.re d2.a d2.c d2.b.re)) 0) k1 (Nat.le_of_eq ht_zero) 600002) (⟨by decide,by decide⟩:HB (Cx.ofInt 0 1) 3) 1200010
 have k3:=HB.add (HB.two (z:=Cx.mk (mn3 d0.a d0.c d0.b.im d1.a d1.c d1.b.im d2.a d2.c d2.b.im) 0) k0 (Nat.le_of_eq ht_zero) 600002) k2 1800012
 have k4:=hb_neg (mn3_hb ead0 ebd0.1 ebd0.2 ead1 ebd1.1 ebd1.2 ead2 ebd2.1 ebd2.2)
 have k5:=HB.scale k3 (by decide:ht (Rat.divInt (-1) (2))≤4) 1800016
 have k6:=mn3_hb ecd0 ebd0.1 ebd0.2 ecd1 ebd1.1 ebd1.2 ecd2 ebd2.1 ebd2.2
 refine Run.goP (S:=S) (Pack.nil.bm B0 3 (n0+3) 12 (AllF.app (ringCells t0_0) (AllF.app (ringCells t0_1) (ringCells t0_2)))) Tryz.func90 rfl ?_
 refine Run.cR sp2Rat (fun _ _ _ H=>eParts d0.b (NumP.mk (H.f 1) (H.f 2))) ?_
 refine Run.cR sp2Rat (fun _ _ _ H=>eParts d1.b (NumP.mk (H.f 5) (H.f 6))) ?_
 refine Run.cR sp2Rat (fun _ _ _ H=>eParts d2.b (NumP.mk (H.f 9) (H.f 10))) ?_
 refine Run.cR spRat (fun _ _ _ H=>qNewRat (-1) 2 (by decide) (by decide) (by decide) (by decide) (by decide)) ?_
 refine Run.cR spRat (fun _ _ _ H=>retZ (acm2 d0.a d0.c d0.b.re d0.b.im d1.a d1.c d1.b.re d1.b.im d2.a d2.c d2.b.re d2.b.im (H.b 2) (H.f 0) (H.f 3) (H.f 12) (H.f 13) (H.f 4) (H.f 7) (H.f 14) (H.f 15) (H.f 8) (H.f 11) (H.f 16) (H.f 17) (by omega) (by omega) (by omega))) ?_
 refine Run.cR spRat (fun _ _ _ H=>retZ (acm3 d0.a d0.c d0.b.re d0.b.im d1.a d1.c d1.b.re d1.b.im d2.a d2.c d2.b.re d2.b.im (H.b 2) (H.f 0) (H.f 3) (H.f 12) (H.f 13) (H.f 4) (H.f 7) (H.f 14) (H.f 15) (H.f 8) (H.f 11) (H.f 16) (H.f 17) (by omega) (by omega) (by omega))) ?_
 refine Run.cR spNum (fun _ _ _ H=>eReal (mn3 d0.a d0.c d0.b.im d1.a d1.c d1.b.im d2.a d2.c d2.b.im) (H.f 19)) ?_
 refine Run.cR spNum (fun _ _ _ H=>eReal (-(mn3 d0.a d0.c d0.b.re d1.a d1.c d1.b.re d2.a d2.c d2.b.re)) (H.f 20)) ?_
 refine Run.cR spNum (fun _ _ _ H=>eInt 0 1 (by decide) (by decide) (by decide) (by decide)) ?_
 refine Run.cR spNum (fun _ _ _ H=>eNMul (Cx.mk (-(mn3 d0.a d0.c d0.b.re d1.a d1.c d1.b.re d2.a d2.c d2.b.re)) 0) (Cx.ofInt 0 1) (NumP.mk (H.f 23) (H.f 24)) (NumP.mk (H.f 25) (H.f 26)) (Nat.le_trans (Nat.add_le_add (Nat.add_le_add (Nat.add_le_add k1 (Nat.le_of_eq ht_zero)) (⟨by decide,by decide⟩:HB (Cx.ofInt 0 1) 3).1) (⟨by decide,by decide⟩:HB (Cx.ofInt 0 1) 3).2) (by decide))) ?_
 refine Run.cR spNum (fun _ _ _ H=>eAdd (Cx.mk (mn3 d0.a d0.c d0.b.im d1.a d1.c d1.b.im d2.a d2.c d2.b.im) 0) ((Cx.mk (-(mn3 d0.a d0.c d0.b.re d1.a d1.c d1.b.re d2.a d2.c d2.b.re)) 0).mul (Cx.ofInt 0 1)) (NumP.mk (H.f 21) (H.f 22)) (NumP.mk (H.f 27) (H.f 28)) (Nat.le_trans (Nat.add_le_add (Nat.add_le_add (Nat.add_le_add k0 (Nat.le_of_eq ht_zero)) k2.1) k2.2) (by decide))) ?_
 refine Run.dr ?_
 refine RunD.cR spRat (fun _ _ _ H=>retZ (acm1 d0.a d0.c d0.b.re d0.b.im d1.a d1.c d1.b.re d1.b.im d2.a d2.c d2.b.re d2.b.im (H.b 2) (H.f 0) (H.f 3) (H.f 12) (H.f 13) (H.f 4) (H.f 7) (H.f 14) (H.f 15) (H.f 8) (H.f 11) (H.f 16) (H.f 17) (by omega) (by omega) (by omega))) ?_
 refine RunD.cR spNum (fun _ _ _ H=>eScale ((Cx.mk (mn3 d0.a d0.c d0.b.im d1.a d1.c d1.b.im d2.a d2.c d2.b.im) 0).add ((Cx.mk (-(mn3 d0.a d0.c d0.b.re d1.a d1.c d1.b.re d2.a d2.c d2.b.re)) 0).mul (Cx.ofInt 0 1))) (Rat.divInt (-1) 2) (NumP.mk (H.f 29) (H.f 30)) (RatP.n (H.f 18)) (Nat.le_trans (Nat.add_le_add (Nat.add_le_add k3.1 k3.2) (by decide:ht (Rat.divInt (-1) (2))≤4)) (by decide))) ?_
 refine RunD.cR spRat (fun _ _ _ H=>retZ (acm0 d0.a d0.c d0.b.re d0.b.im d1.a d1.c d1.b.re d1.b.im d2.a d2.c d2.b.re d2.b.im (H.b 2) (H.f 0) (H.f 3) (H.f 12) (H.f 13) (H.f 4) (H.f 7) (H.f 14) (H.f 15) (H.f 8) (H.f 11) (H.f 16) (H.f 17) (by omega) (by omega) (by omega))) ?_
 refine RunD.en ?_
 exact Run.rR (fun _ _ _ H=>VPe (φ:=RingP) (rfl) (RingP.mk (H.f 31) (H.f 32) (H.f 33) (H.f 34)))
theorem ahd{v0 v1:Value}(a b:Ci)(t0:(RingP a).p S v0 W)(t1:(RingP b).p S v1 W)(p0:ht a.a+ht a.b.re+ht a.b.im+ht a.c+(ht b.a+ht b.b.re+ht b.b.im+ht b.c)≤67108000):Calls Tryz.prog 92 #[v0,v1] W (RetV (.bool (a.ahd b)) W):=by
 have k0:=hc_sub a.b b.b
 refine Run.goP (S:=S) ((Pack.nil.s spRing t0).s spRing t1) Tryz.func92 rfl ?_
 refine Run.cR spNum (fun _ _ _ H=>eSub a.b b.b (NumP.mk (H.f 1) (H.f 2)) (NumP.mk (H.f 5) (H.f 6)) (by omega)) ?_
 refine Run.cR sp2Rat (fun _ _ _ H=>eParts (a.b.sub b.b) (NumP.mk (H.f 8) (H.f 9))) ?_
 refine Run.dr ?_
 refine RunD.cV [.int .i64 (icmp (a.a.num*(b.a.den:Int)) (b.a.num*(a.a.den:Int)))] kb (fun _ _ _ H=>qCmp a.a b.a (H.f 0) (H.f 4) (by omega)) ?_
 refine RunD.un (icmp (a.a.num*(b.a.den:Int)) (b.a.num*(a.a.den:Int))) (wneg _ _) ?_
 refine RunD.cV [.int .i64 (((a.b.sub b.b).re).num.sign)] kb (fun _ _ _ H=>qSign ((a.b.sub b.b).re) (H.f 10)) ?_
 refine RunD.cV [.int .i64 (((a.b.sub b.b).im).num.sign)] kb (fun _ _ _ H=>qSign ((a.b.sub b.b).im) (H.f 11)) ?_
 refine RunD.cV [.int .i64 (icmp (a.c.num*(b.c.den:Int)) (b.c.num*(a.c.den:Int)))] kb (fun _ _ _ H=>qCmp a.c b.c (H.f 3) (H.f 7) (by omega)) ?_
 refine RunD.en ?_
 refine Run.ic (-(icmp (a.a.num*(b.a.den:Int)) (b.a.num*(a.a.den:Int)))) 0 ((-(icmp (a.a.num*(b.a.den:Int)) (b.a.num*(a.a.den:Int)))) != 0) ?_
 refine (Bool.eq_false_or_eq_true ((-(icmp (a.a.num*(b.a.den:Int)) (b.a.num*(a.a.den:Int)))) != 0)).elim (fun c1=>?_) (fun c1=>?_)
 · refine Run.kn c1 ?_
   refine Run.ic (-(icmp (a.a.num*(b.a.den:Int)) (b.a.num*(a.a.den:Int)))) 0 (decide ((-(icmp (a.a.num*(b.a.den:Int)) (b.a.num*(a.a.den:Int))))<0)) ?_
   exact Run.rV (V' := .bool (decide ((-(icmp (a.a.num*(b.a.den:Int)) (b.a.num*(a.a.den:Int))))<0))) ((congrArg Value.bool (by simp [Ci.ahd,fstN,c1])))
 · refine Run.kn c1 ?_
   refine Run.ic (((a.b.sub b.b).re).num.sign) 0 ((((a.b.sub b.b).re).num.sign) != 0) ?_
   refine (Bool.eq_false_or_eq_true ((((a.b.sub b.b).re).num.sign) != 0)).elim (fun c2=>?_) (fun c2=>?_)
   · refine Run.kn c2 ?_
     refine Run.ic (((a.b.sub b.b).re).num.sign) 0 (decide ((((a.b.sub b.b).re).num.sign)<0)) ?_
     exact Run.rV (V' := .bool (decide ((((a.b.sub b.b).re).num.sign)<0))) ((congrArg Value.bool (by simp [Ci.ahd,fstN,c1,c2])))
   · refine Run.kn c2 ?_
     refine Run.ic (((a.b.sub b.b).im).num.sign) 0 ((((a.b.sub b.b).im).num.sign) != 0) ?_
     refine (Bool.eq_false_or_eq_true ((((a.b.sub b.b).im).num.sign) != 0)).elim (fun c3=>?_) (fun c3=>?_)
     · refine Run.kn c3 ?_
       refine Run.ic (((a.b.sub b.b).im).num.sign) 0 (decide ((((a.b.sub b.b).im).num.sign)<0)) ?_
       exact Run.rV (V' := .bool (decide ((((a.b.sub b.b).im).num.sign)<0))) ((congrArg Value.bool (by simp [Ci.ahd,fstN,c1,c2,c3])))
     · refine Run.kn c3 ?_
       refine Run.ic (icmp (a.c.num*(b.c.den:Int)) (b.c.num*(a.c.den:Int))) 0 ((icmp (a.c.num*(b.c.den:Int)) (b.c.num*(a.c.den:Int))) != 0) ?_
       refine (Bool.eq_false_or_eq_true ((icmp (a.c.num*(b.c.den:Int)) (b.c.num*(a.c.den:Int))) != 0)).elim (fun c4=>?_) (fun c4=>?_)
       · refine Run.kn c4 ?_
         refine Run.ic (icmp (a.c.num*(b.c.den:Int)) (b.c.num*(a.c.den:Int))) 0 (decide ((icmp (a.c.num*(b.c.den:Int)) (b.c.num*(a.c.den:Int)))<0)) ?_
         exact Run.rV (V' := .bool (decide ((icmp (a.c.num*(b.c.den:Int)) (b.c.num*(a.c.den:Int)))<0))) ((congrArg Value.bool (by simp [Ci.ahd,fstN,c1,c2,c3,c4])))
       · refine Run.kn c4 ?_
         exact Run.rV (V' := .bool false) ((congrArg Value.bool (by simp [Ci.ahd,fstN,c1,c2,c3,c4])))
theorem fo4(a b c:Ci)(p0:dsOk (rci a)=true)(p1:dsOk (rci b)=true)(p2:dsOk (rci c)=true)(p3:Ci.all3 a b c=true):Calls Tryz.prog 21 #[ciV a,ciV b,ciV c] W (RetV (.tuple #[rciV (Ci.f4P a b c),rciV (Ci.f4Q a b c),.int .i64 (Ci.f4E a b c)]) W):=by
 have f0:=cifits_ht (dsOk_c p0).1
 have f1:=cifits_ht (dsOk_c p1).1
 have f2:=cifits_ht (dsOk_c p2).1
 obtain⟨g1,g2,g3⟩:=f4_ht f0 f1 f2
 have g4:=acr_ht f0 f1 f2
 have g5:=plus_ht a b
 have g6:=out_hs (Ci.acr a b c)
 unfold Ci.f4s at g1
 unfold Ci.f4x Ci.f4s at g2
 unfold Ci.f4y Ci.f4s at g3
 refine Run.goP (S:=Z0) (((Pack.nil.k (ciV a) (ciC a).toList (.s (.agg (ks 0 16)))).k (ciV b) (ciC b).toList (.s (.agg (ks 0 16)))).k (ciV c) (ciC c).toList (.s (.agg (ks 0 16)))) Tryz.func21 rfl ?_
 refine Run.cB (n:=3) (T:=133) (φs:=ringF [a,b,c]) (fun _ _ _ H=>pl3Y 29 a b c (H.b 5) p0 p1 p2) (fun cp1=>?_)
 refine Run.cV [.bool ([b.touch a].all id&&[c.touch a,c.touch b].all id)] kb (fun _ _ _ H=>tch3 cp1 a b c (H.br 6) (RingP.mk (H.f 0) (H.f 1) (H.f 2) (H.f 3)) (RingP.mk (H.f 4) (H.f 5) (H.f 6) (H.f 7)) (RingP.mk (H.f 8) (H.f 9) (H.f 10) (H.f 11)) (by omega) (by omega) (by omega)) ?_
 refine Run.kn p3 ?_
 refine Run.dr ?_
 refine RunD.cR spRing (fun _ _ _ H=>dsPlus a b (RingP.mk (H.f 0) (H.f 1) (H.f 2) (H.f 3)) (RingP.mk (H.f 4) (H.f 5) (H.f 6) (H.f 7)) (by omega)) ?_
 refine RunD.cR spRing (fun _ _ _ H=>dsPlus (a.plus b) c (RingP.mk (H.f 12) (H.f 13) (H.f 14) (H.f 15)) (RingP.mk (H.f 8) (H.f 9) (H.f 10) (H.f 11)) (by omega)) ?_
 refine RunD.cR spRing (fun _ _ _ H=>acr cp1 a b c (H.br 6) (RingP.mk (H.f 0) (H.f 1) (H.f 2) (H.f 3)) (RingP.mk (H.f 4) (H.f 5) (H.f 6) (H.f 7)) (RingP.mk (H.f 8) (H.f 9) (H.f 10) (H.f 11)) (by omega) (by omega) (by omega)) ?_
 refine RunD.en ?_
 refine Run.dr ?_
 refine RunD.cR spRing (fun _ _ _ H=>dsPlus ((a.plus b).plus c) (Ci.acr a b c) (RingP.mk (H.f 16) (H.f 17) (H.f 18) (H.f 19)) (RingP.mk (H.f 20) (H.f 21) (H.f 22) (H.f 23)) (by omega)) ?_
 refine RunD.cR spRing (fun _ _ _ H=>dsOut (Ci.acr a b c) (RingP.mk (H.f 20) (H.f 21) (H.f 22) (H.f 23)) (by omega)) ?_
 refine RunD.cR spRing (fun _ _ _ H=>dsPlus ((a.plus b).plus c) ((Ci.acr a b c).out) (RingP.mk (H.f 16) (H.f 17) (H.f 18) (H.f 19)) (RingP.mk (H.f 28) (H.f 29) (H.f 30) (H.f 31)) (by omega)) ?_
 refine RunD.en ?_
 refine Run.cV [.bool ((((a.plus b).plus c).plus ((Ci.acr a b c).out)).ahd (((a.plus b).plus c).plus (Ci.acr a b c)))] kb (fun _ _ _ H=>ahd (((a.plus b).plus c).plus ((Ci.acr a b c).out)) (((a.plus b).plus c).plus (Ci.acr a b c)) (RingP.mk (H.f 32) (H.f 33) (H.f 34) (H.f 35)) (RingP.mk (H.f 24) (H.f 25) (H.f 26) (H.f 27)) (by omega)) ?_
 refine (Bool.eq_false_or_eq_true ((((a.plus b).plus c).plus ((Ci.acr a b c).out)).ahd (((a.plus b).plus c).plus (Ci.acr a b c)))).elim (fun c1=>?_) (fun c1=>?_)
 · refine Run.kn c1 ?_
   refine Run.cV ((rciC (cicut (((a.plus b).plus c).plus ((Ci.acr a b c).out)))).toList++[.int .i64 (cierr (((a.plus b).plus c).plus ((Ci.acr a b c).out)))]) (.tup [.agg (ks 0 16),.o (.k 16)]) (fun _ _ _ H=>dsTold (((a.plus b).plus c).plus ((Ci.acr a b c).out)) (RingP.mk (H.f 32) (H.f 33) (H.f 34) (H.f 35)) (by omega)) ?_
   refine Run.cV ((rciC (cicut (((a.plus b).plus c).plus (Ci.acr a b c)))).toList++[.int .i64 (cierr (((a.plus b).plus c).plus (Ci.acr a b c)))]) (.tup [.agg (ks 0 16),.o (.k 16)]) (fun _ _ _ H=>dsTold (((a.plus b).plus c).plus (Ci.acr a b c)) (RingP.mk (H.f 24) (H.f 25) (H.f 26) (H.f 27)) (by omega)) ?_
   refine Run.ic (cierr (((a.plus b).plus c).plus ((Ci.acr a b c).out))) 0 ((cierr (((a.plus b).plus c).plus ((Ci.acr a b c).out))) != 0) ?_
   refine (Bool.eq_false_or_eq_true ((cierr (((a.plus b).plus c).plus ((Ci.acr a b c).out))) != 0)).elim (fun c2=>?_) (fun c2=>?_)
   · refine Run.kn c2 ?_
     exact Run.rV (fo_1 c1 c2)
   · refine Run.kn c2 ?_
     refine Run.ic (cierr (((a.plus b).plus c).plus (Ci.acr a b c))) 0 ((cierr (((a.plus b).plus c).plus (Ci.acr a b c))) != 0) ?_
     refine (Bool.eq_false_or_eq_true ((cierr (((a.plus b).plus c).plus (Ci.acr a b c))) != 0)).elim (fun c3=>?_) (fun c3=>?_)
     · refine Run.kn c3 ?_
       exact Run.rV (fo_2 c1 c3)
     · refine Run.kn c3 ?_
       refine Run.dr ?_
       refine RunD.en ?_
       exact Run.rV (fo_3 c1 c2 c3)
 · refine Run.kn c1 ?_
   refine Run.cV ((rciC (cicut (((a.plus b).plus c).plus (Ci.acr a b c)))).toList++[.int .i64 (cierr (((a.plus b).plus c).plus (Ci.acr a b c)))]) (.tup [.agg (ks 0 16),.o (.k 16)]) (fun _ _ _ H=>dsTold (((a.plus b).plus c).plus (Ci.acr a b c)) (RingP.mk (H.f 24) (H.f 25) (H.f 26) (H.f 27)) (by omega)) ?_
   refine Run.cV ((rciC (cicut (((a.plus b).plus c).plus ((Ci.acr a b c).out)))).toList++[.int .i64 (cierr (((a.plus b).plus c).plus ((Ci.acr a b c).out)))]) (.tup [.agg (ks 0 16),.o (.k 16)]) (fun _ _ _ H=>dsTold (((a.plus b).plus c).plus ((Ci.acr a b c).out)) (RingP.mk (H.f 32) (H.f 33) (H.f 34) (H.f 35)) (by omega)) ?_
   refine Run.ic (cierr (((a.plus b).plus c).plus (Ci.acr a b c))) 0 ((cierr (((a.plus b).plus c).plus (Ci.acr a b c))) != 0) ?_
   refine (Bool.eq_false_or_eq_true ((cierr (((a.plus b).plus c).plus (Ci.acr a b c))) != 0)).elim (fun c4=>?_) (fun c4=>?_)
   · refine Run.kn c4 ?_
     exact Run.rV (fo_4 c1 c4)
   · refine Run.kn c4 ?_
     refine Run.ic (cierr (((a.plus b).plus c).plus ((Ci.acr a b c).out))) 0 ((cierr (((a.plus b).plus c).plus ((Ci.acr a b c).out))) != 0) ?_
     refine (Bool.eq_false_or_eq_true ((cierr (((a.plus b).plus c).plus ((Ci.acr a b c).out))) != 0)).elim (fun c5=>?_) (fun c5=>?_)
     · refine Run.kn c5 ?_
       exact Run.rV (fo_5 c1 c5)
     · refine Run.kn c5 ?_
       refine Run.dr ?_
       refine RunD.en ?_
       exact Run.rV (fo_6 c1 c4 c5)
theorem swp0{w0_0 w0_1 w0_2 w0_3 w0_4 w0_5 w0_6 w0_7 w0_8 w0_9 w0_10 w0_11 w0_12 w0_13 w0_14 w0_15:Value}{b0:Nat}(n0:Nat)(d0 d1 d2 d3:Ci)(B0:∃ r:List Value,W.heap[b0]? = some (.cells ⟨[w0_0,w0_1,w0_2,w0_3,w0_4,w0_5,w0_6,w0_7,w0_8,w0_9,w0_10,w0_11,w0_12,w0_13,w0_14,w0_15]++r⟩ 133 (0,0)))(t0_0:(RingP d0).p S (.agg #[w0_0,w0_1,w0_2,w0_3]) W)(t0_1:(RingP d1).p S (.agg #[w0_4,w0_5,w0_6,w0_7]) W)(t0_2:(RingP d2).p S (.agg #[w0_8,w0_9,w0_10,w0_11]) W)(t0_3:(RingP d3).p S (.agg #[w0_12,w0_13,w0_14,w0_15]) W)(p0:ht d0.a+ht d0.b.re+ht d0.b.im+ht d0.c≤1000000)(p1:ht d1.a+ht d1.b.re+ht d1.b.im+ht d1.c≤1000000)(p2:ht d2.a+ht d2.b.re+ht d2.b.im+ht d2.c≤1000000)(p3:ht d3.a+ht d3.b.re+ht d3.b.im+ht d3.c≤1000000):Calls Tryz.prog 69 #[.slice (some ⟨b0,0,none⟩) 4 (n0+4),.int .i64 0] W (Ret (RingP (Ci.swp d0 d1 d2 d3 d0)) S W):=by
 have h1:=plus_ht d0 d1
 have h2:=plus_ht (d0.plus d1) d2
 have h3:=plus_ht ((d0.plus d1).plus d2) d3
 have h4:=out_hs d0
 have h5:=plus_ht (((d0.plus d1).plus d2).plus d3) d0.out
 have h6:=plus_ht ((((d0.plus d1).plus d2).plus d3).plus d0.out) ((((d0.plus d1).plus d2).plus d3).plus d0.out)
 refine Run.goP (S:=S) ((Pack.nil.bm B0 4 (n0+4) 16 (AllF.app (ringCells t0_0) (AllF.app (ringCells t0_1) (AllF.app (ringCells t0_2) (ringCells t0_3))))).k (.int .i64 0) [] (.s (.o (.c (.int .i64 0))))) Tryz.func69 rfl ?_
 refine Run.dr ?_
 refine RunD.cR spRing (fun _ _ _ H=>dsPlus d0 d1 (RingP.mk (H.f 0) (H.f 1) (H.f 2) (H.f 3)) (RingP.mk (H.f 4) (H.f 5) (H.f 6) (H.f 7)) (by omega)) ?_
 refine RunD.cR spRing (fun _ _ _ H=>dsPlus (d0.plus d1) d2 (RingP.mk (H.f 16) (H.f 17) (H.f 18) (H.f 19)) (RingP.mk (H.f 8) (H.f 9) (H.f 10) (H.f 11)) (by omega)) ?_
 refine RunD.cR spRing (fun _ _ _ H=>dsPlus ((d0.plus d1).plus d2) d3 (RingP.mk (H.f 20) (H.f 21) (H.f 22) (H.f 23)) (RingP.mk (H.f 12) (H.f 13) (H.f 14) (H.f 15)) (by omega)) ?_
 refine RunD.cR spRing (fun _ _ _ H=>dsOut d0 (RingP.mk (H.f 0) (H.f 1) (H.f 2) (H.f 3)) (by omega)) ?_
 refine RunD.cR spRing (fun _ _ _ H=>dsPlus (((d0.plus d1).plus d2).plus d3) d0.out (RingP.mk (H.f 24) (H.f 25) (H.f 26) (H.f 27)) (RingP.mk (H.f 28) (H.f 29) (H.f 30) (H.f 31)) (by omega)) ?_
 refine RunD.en ?_
 refine Run.dr ?_
 refine RunD.cR spRing (fun _ _ _ H=>dsPlus ((((d0.plus d1).plus d2).plus d3).plus d0.out) ((((d0.plus d1).plus d2).plus d3).plus d0.out) (RingP.mk (H.f 32) (H.f 33) (H.f 34) (H.f 35)) (RingP.mk (H.f 32) (H.f 33) (H.f 34) (H.f 35)) (by omega)) ?_
 refine RunD.cR spRing (fun _ _ _ H=>dsOut d0 (RingP.mk (H.f 0) (H.f 1) (H.f 2) (H.f 3)) (by omega)) ?_
 refine RunD.cR spRing (fun _ _ _ H=>dsPlus (((((d0.plus d1).plus d2).plus d3).plus d0.out).plus ((((d0.plus d1).plus d2).plus d3).plus d0.out)) d0.out (RingP.mk (H.f 36) (H.f 37) (H.f 38) (H.f 39)) (RingP.mk (H.f 40) (H.f 41) (H.f 42) (H.f 43)) (by omega)) ?_
 refine RunD.en ?_
 exact Run.rR (fun _ _ _ H=>VPe (φ:=RingP) (rfl) (RingP.mk (H.f 44) (H.f 45) (H.f 46) (H.f 47)))
theorem sw1(i:Int):Calls Tryz.prog 68 #[.int .i64 i] W (RetV (.bool ((decide (i<0))||(decide (3<i)))) W):=by
 refine Run.goP (S:=Z0) (Pack.nil.k (.int .i64 i) [.int .i64 i] kb) Tryz.func68 rfl ?_
 refine Run.ic i 0 (decide (i<0)) ?_
 refine (Bool.eq_false_or_eq_true (decide (i<0))).elim (fun c1=>?_) (fun c1=>?_)
 · refine Run.kn c1 ?_
   exact Run.rV (V' := .bool true) ((congrArg Value.bool (by simp [c1])))
 · refine Run.kn c1 ?_
   refine Run.ic i 3 (decide (3<i)) ?_
   exact Run.rV (V' := .bool (decide (3<i))) ((congrArg Value.bool (by simp [c1])))
theorem ii1{b0:Nat}(T0:TypeId)(i:Int)(B0:W.heap[b0]? = some (.cells (#[.int .i64 i]) T0 (0,0))):Calls Tryz.prog 164 #[.slice (some ⟨b0,0,none⟩) 1 1,.func (.func 68) #[] #[]] W (RetV (.int .i64 (idxF [!((decide (i<0))||(decide (3<i)))] 0)) W):=by
 refine Run.goP (S:=Z0) ((Pack.nil.b B0 (some 1) 1).k (.func (.func 68) #[] #[]) [] (.s (.o (.fn 68 [])))) Tryz.func164 rfl ?_
 refine Run.cV [.bool ((decide (i<0))||(decide (3<i)))] kb (fun _ _ _ H=>sw1 i) ?_
 refine (Bool.eq_false_or_eq_true ((decide (i<0))||(decide (3<i)))).elim (fun c1=>?_) (fun c1=>?_)
 · refine Run.kn c1 ?_
   exact Run.rV (V' := .int .i64 (0)) ((congrArg (Value.int .i64) (by simp only [idxF,c1];rfl)))
 · refine Run.kn c1 ?_
   exact Run.rV (V' := .int .i64 (-1)) ((congrArg (Value.int .i64) (by simp only [idxF,c1];rfl)))
theorem ci1{b0:Nat}(T0:TypeId)(i:Int)(B0:W.heap[b0]? = some (.cells (#[.int .i64 i]) T0 (0,0))):Calls Tryz.prog 67 #[.slice (some ⟨b0,0,none⟩) 1 1,.func (.func 68) #[] #[]] W (RetV (.bool ((decide (i<0))||(decide (3<i)))) W):=by
 refine Run.goP (S:=Z0) ((Pack.nil.b B0 (some 1) 1).k (.func (.func 68) #[] #[]) [] (.s (.o (.fn 68 [])))) Tryz.func67 rfl ?_
 refine Run.cV [.int .i64 (idxF [!((decide (i<0))||(decide (3<i)))] 0)] kb (fun _ _ _ H=>ii1 T0 i (H.b 0)) ?_
 refine Run.ic (idxF [!((decide (i<0))||(decide (3<i)))] 0) 0 (decide (0≤(idxF [!((decide (i<0))||(decide (3<i)))] 0))) ?_
 exact Run.rV ((congrArg Value.bool (ci1_eq _)))
theorem frY(d0 d1 d2 d3:Ci)(p0:dsOk (rci d0)=true)(p1:dsOk (rci d1)=true)(p2:dsOk (rci d2)=true)(p3:dsOk (rci d3)=true)(p4:Ci.all4 d0 d1 d2 d3=true):Calls Tryz.prog 66 #[.agg ⟨(ciC d0).toList++(ciC d1).toList++(ciC d2).toList++(ciC d3).toList⟩] W (RetB 133 4 (ringF [d0,d1,d2,d3]) (.int .i64 0) S W):=by
 have f0:=cifits_ht (dsOk_c p0).1
 have f1:=cifits_ht (dsOk_c p1).1
 have f2:=cifits_ht (dsOk_c p2).1
 have f3:=cifits_ht (dsOk_c p3).1
 refine Run.goP (S:=S) (Pack.nil.k (.agg ⟨(ciC d0).toList++(ciC d1).toList++(ciC d2).toList++(ciC d3).toList⟩) ((ciC d0).toList++(ciC d1).toList++(ciC d2).toList++(ciC d3).toList) (.s (.agg (ks 0 64)))) Tryz.func66 rfl ?_
 refine Run.cB (n:=4) (T:=133) (φs:=ringF [d0,d1,d2,d3]) (fun _ _ _ H=>pl4Y 30 d0 d1 d2 d3 (H.b 0) p0 p1 p2 p3) (fun cp1=>?_)
 refine Run.cV [.bool ([d1.touch d0].all id&&[d2.touch d0,d2.touch d1].all id&&[d3.touch d0,d3.touch d1,d3.touch d2].all id)] kb (fun _ _ _ H=>tch4 cp1 d0 d1 d2 d3 (H.br 1) (RingP.mk (H.f 0) (H.f 1) (H.f 2) (H.f 3)) (RingP.mk (H.f 4) (H.f 5) (H.f 6) (H.f 7)) (RingP.mk (H.f 8) (H.f 9) (H.f 10) (H.f 11)) (RingP.mk (H.f 12) (H.f 13) (H.f 14) (H.f 15)) (by omega) (by omega) (by omega) (by omega) (by omega) (by omega)) ?_
 refine Run.kn p4 ?_
 exact Run.rB 1 cp1
theorem sws0Y{b1:Nat}(d0 d1 d2 d3:Ci)(T1:TypeId)(B1:W.heap[b1]? = some (.cells #[.int .i64 0] T1 (0,0)))(p0:dsOk (rci d0)=true)(p1:dsOk (rci d1)=true)(p2:dsOk (rci d2)=true)(p3:dsOk (rci d3)=true)(p4:Ci.all4 d0 d1 d2 d3=true)(p5:((cierr (Ci.swp d0 d1 d2 d3 d0)) != 0)=false):Calls Tryz.prog 12 #[.agg ⟨(ciC d0).toList++(ciC d1).toList++(ciC d2).toList++(ciC d3).toList⟩,.slice (some ⟨b1,0,none⟩) 1 1] W (RetV (.tuple #[.agg ⟨(rciC (cicut (Ci.swp d0 d1 d2 d3 d0))).toList++(ciC d1).toList++(ciC d2).toList++(ciC d3).toList⟩,.int .i64 0]) W):=by
 have f0:=cifits_ht (dsOk_c p0).1
 have f1:=cifits_ht (dsOk_c p1).1
 have f2:=cifits_ht (dsOk_c p2).1
 have f3:=cifits_ht (dsOk_c p3).1
 have g0:=swp_ht d0 d1 d2 d3 d0
 refine Run.goP (S:=Z0) ((Pack.nil.k (.agg ⟨(ciC d0).toList++(ciC d1).toList++(ciC d2).toList++(ciC d3).toList⟩) ((ciC d0).toList++(ciC d1).toList++(ciC d2).toList++(ciC d3).toList) (.s (.agg (ks 0 64)))).bc B1 (some 1)) Tryz.func12 rfl ?_
 refine Run.cB (n:=4) (T:=133) (φs:=ringF [d0,d1,d2,d3]) (fun _ _ _ H=>frY d0 d1 d2 d3 p0 p1 p2 p3 p4) (fun cp1=>?_)
 refine Run.cV [.bool ((decide (0<0))||(decide (3<0)))] kb (fun _ _ _ H=>ci1 T1 0 (H.b 0)) ?_
 refine Run.kn (b:=false) rfl ?_
 refine Run.cR spRing (fun _ _ _ H=>swp0 cp1 d0 d1 d2 d3 (H.br 3) (RingP.mk (H.f 0) (H.f 1) (H.f 2) (H.f 3)) (RingP.mk (H.f 4) (H.f 5) (H.f 6) (H.f 7)) (RingP.mk (H.f 8) (H.f 9) (H.f 10) (H.f 11)) (RingP.mk (H.f 12) (H.f 13) (H.f 14) (H.f 15)) (by omega) (by omega) (by omega) (by omega)) ?_
 refine Run.sm 3 0 ?_
 refine Run.cV ((rciC (cicut (Ci.swp d0 d1 d2 d3 d0))).toList++[.int .i64 (cierr (Ci.swp d0 d1 d2 d3 d0))]) (.tup [.agg (ks 0 16),.o (.k 16)]) (fun _ _ _ H=>dsTold (Ci.swp d0 d1 d2 d3 d0) (RingP.mk (H.f 16) (H.f 17) (H.f 18) (H.f 19)) (by omega)) ?_
 refine Run.ic (cierr (Ci.swp d0 d1 d2 d3 d0)) 0 ((cierr (Ci.swp d0 d1 d2 d3 d0)) != 0) ?_
 refine Run.kn p5 ?_
 exact Run.rV rfl
theorem sw0Y(d0 d1 d2 d3:Ci)(p0:dsOk (rci d0)=true)(p1:dsOk (rci d1)=true)(p2:dsOk (rci d2)=true)(p3:dsOk (rci d3)=true)(p4:Ci.all4 d0 d1 d2 d3=true)(p5:((cierr (Ci.swp d0 d1 d2 d3 d0)) != 0)=false):Calls Tryz.prog 11 #[.agg ⟨(ciC d0).toList++(ciC d1).toList++(ciC d2).toList++(ciC d3).toList⟩,.int .i64 0] W (RetV (.tuple #[.agg ⟨(rciC (cicut (Ci.swp d0 d1 d2 d3 d0))).toList++(ciC d1).toList++(ciC d2).toList++(ciC d3).toList⟩,.int .i64 0]) W):=by
 refine Run.goP (S:=Z0) ((Pack.nil.k (.agg ⟨(ciC d0).toList++(ciC d1).toList++(ciC d2).toList++(ciC d3).toList⟩) ((ciC d0).toList++(ciC d1).toList++(ciC d2).toList++(ciC d3).toList) (.s (.agg (ks 0 64)))).k (.int .i64 0) [] (.s (.o (.c (.int .i64 0))))) Tryz.func11 rfl ?_
 refine Run.cV ((rciC (cicut (Ci.swp d0 d1 d2 d3 d0))).toList++(ciC d1).toList++(ciC d2).toList++(ciC d3).toList) (.tup [.agg (ks 0 64),.o (.c (.int .i64 0))]) (fun _ _ _ H=>sws0Y d0 d1 d2 d3 3 (H.b 2) p0 p1 p2 p3 p4 p5) ?_
 exact Run.rV rfl
end Go.Proofs.YtcboejgklgnifaaGreat
namespace Go.Proofs.YtcboejgklgnifaaGreat
open Go.RowKit Rgn
section
variable {w:World}
theorem eqin_dk(d:Nat)(r q:RCi):(Op.equalIn (d+5) 29 (rciV r) (rciV q)).run Tryz.prog w=.ok (decide (r=q)) w:=by
 have hf:=fields_of Tryz.underlying29
 have e:decide (r=q)=((decide (r.a=q.a)&&(decide (r.b=q.b)&&(decide (r.c=q.c)&&true)))):=by
  cases r;cases q;simp only [RCi.mk.injEq,Bool.and_true,decide_eq_decide,Bool.decide_and]
 rw [e]
 rw [run_equalIn_struct _ _ _ _ _ (by rw [hf];exact Tryz.underlying29) (by kernel_rfl),hf]
 refine eqf_step (a:=rfV r.a) (b:=rfV q.a) (by decide) (by go_simp) (by go_simp) (eqin_frac _ _ _) (eqf_step (a:=rgV r.b) (b:=rgV q.b) (by decide) (by go_simp) (by go_simp) (eqin_gauss _ _ _) (eqf_step (a:=rfV r.c) (b:=rfV q.c) (by decide) (by go_simp) (by go_simp) (eqin_frac _ _ _) (eqf_nil)))
end
theorem ex_eql_dk{ρ:Operand→Value}{o:Oper}{w:World}{k:TypeId}(a b:Operand)(ho:o.op=.binOp .eql 29 a b k){r q:RCi}(ha:ρ a=rciV r)(hb:ρ b=rciV q){c:Bool}(hc:decide (r=q)=c):(execOp ρ o).run Tryz.prog w=.ok (.value (.bool (c))) w:=by
 subst hc
 unfold execOp
 simp only [ho,ha,hb,rciV,Sem.run_bind]
 rw [run_eqGuard_agg (P:=Tryz.prog) w .eql 29 a b (rciC r) (rciC q) (by kernel_rfl)]
 simp only [Result.andThen_ok,Sem.run_bind,run_eql_struct,eqin_dk 9995 r q]
 rfl
end Go.Proofs.YtcboejgklgnifaaGreat
namespace Go.Proofs.YtcboejgklgnifaaGreat
open Go.RowKit Rgn Eng
def Ci.in4(n re im co:Int):Ci:=⟨(n:Rat),Cx.ofInt re im,(co:Rat)⟩
def Ci.dk(c:Ci):Int:=if (!decide (c.b.norm-c.a*c.c=(1:Rat)))=true then 2 else 0
theorem dk_dot(c:Ci):c.b.norm-c.a*c.c=1↔c.dot c=-1:=by
 have h2:Rat.divInt (1:Int) (2:Int)=(1:Rat)/2:=by rw [Rat.divInt_eq_div];rfl
 unfold Ci.dot Cx.norm
 have e:(c.b.mul c.b.conj).re=c.b.re*c.b.re+c.b.im*c.b.im:=by unfold Cx.mul Cx.conj;grind
 rw [h2,e]
 grind
section
variable {a b:Ci}
end
end Go.Proofs.YtcboejgklgnifaaGreat
