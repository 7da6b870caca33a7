/- tracerylaw23.FordMet returns true for any fraction and any row of fractions, and changes nothing that it was handed. No condition. -/
import Derived.Test.YtcdbmjnipaochaaGreatP06
import Derived.Deep.Upon
import Derived.ProofKit
import Derived.OpenShut
import Derived.JoinedCond
import Derived.Deep.Slices
import Derived.Deep.Strs
import Derived.Test.YtcdbmjnipaochaaGreatRows
import Derived.WalkKit
import Derived.Below
import Derived.ChangeSame
import Derived.WideKeyArgs
import Derived.JoinedOf
import Derived.JoinedAt
set_option linter.unusedVariables false
set_option linter.unusedSimpArgs false
set_option maxHeartbeats 8000000
set_option maxRecDepth 100000
namespace Go.Proofs.YtcdbmjnipaochaaGreat.Eng
open Go.RowKit Rgn
section
variable {P:Program} {w:World} {TS ty T:TypeId} {i:TypeInfo} {z:Value} {sz bt k:Nat} (ht:P.underlying TS=some (.slice T)) (hi:P.info? T=some i) (hz:i.zero=some z) (hsize:i.size=sz) (hby:i.bytes=bt) (hzs:z.cells.size=sz) (hsz:0<sz) (hb:bt≤100000)
 (a:Addr) (c0:Nat) (news:List Value) (hl:news.length=k*sz) (hnews:∀ j u,news[j]? = some u→w.cell? (a.add j)=some u)
include ht hi hz hsize hby hzs hsz hb hl hnews
theorem ap_owns(h1:∀ u ∈ news,u.oneCell'=true){g n cap:Nat}{cur:Array Value}(hg:w.heap[g]? = some (.cells cur T (0,0)))(hc:cur.size=(cap+n)*sz)(hn:n+k≤100000):∃ g' c cur' w', (Builtin.append_ #[TS,TS] ty #[.slice (some ⟨g,0,none⟩) n (cap+n),.slice (some a) k c0]).run P w=.ok (.slice (some ⟨g', 0,none⟩) (n+k) (c+(n+k))) w'∧w'.os=w.os∧w'.tape=w.tape∧w'.output=w.output∧w.heap.size≤w'.heap.size ∧
   (∀ j,j<w.heap.size→j≠g→w'.heap[j]? = w.heap[j]?)∧(g'=g∨w.heap.size≤g')∧w'.heap[g']? = some (.cells cur' T (0,0))∧cur'.size=(c+(n+k))*sz∧cur'.toList.take ((n+k)*sz)=cur.toList.take (n*sz)++news:=by
 subst hsize
 subst hby
 have hle:n*i.size≤cur.size:=by rw [hc];exact Nat.mul_le_mul_right _ (by omega)
 have htl:(cur.toList.take (n*i.size)).length=n*i.size:=by rw [List.length_take];simp;omega
 have e1:(n+k)*i.size=n*i.size+k*i.size:=Nat.add_mul _ _ _
 by_cases hk:k≤cap
 ·obtain⟨d,rfl⟩:∃ d,cap=d+k:=⟨cap-k,by omega⟩
  have hfit:n*i.size+news.length≤cur.size:=by rw [hl,hc,← e1];exact Nat.mul_le_mul_right _ (by omega)
  have hr:=run_append_room (P:=P) w TS ty T i ht hi g n (d+k+n) cur hg a k c0 news hl hnews h1 (by omega) hfit
  rw [show d+k+n=d+(n+k) by omega] at hr
  have ho:=setRow_only w g (cur.toList.take (n*i.size)++news++cur.toList.drop (n*i.size+news.length)).toArray
  rw [show d+k+n=d+(n+k) by omega]
  refine⟨g,d,_,_,hr,rfl,rfl,rfl,by simp [World.setRow],fun j hj hne=>ho.block j hj hne,.inl rfl,setRow_at hg,?_,?_⟩
  ·simp only [List.size_toArray,List.length_append,htl,List.length_drop,Array.length_toList]
   rw [show d+(n+k)=d+k+n by omega,← hc];omega
  ·rw [e1,← hl]
   have:(cur.toList.take (n*i.size)++news).length=n*i.size+news.length:=by rw [List.length_append,htl]
   rw [← this];exact List.take_left
 ·have hb2:(n+k)*i.bytes≤140737488355328:=Nat.le_trans (Nat.mul_le_mul (show n+k≤100000 by omega) hb) (by decide)
  have hol:(cur.toList.take (n*i.size)).length=n*i.size:=htl
  have hr:=run_append_grow (P:=P) w TS ty T i z ht hi hz ⟨g,0,none⟩ n (cap+n) (cur.toList.take (n*i.size)) hol (fun j u hj=>by
   rw [Addr.add_lit]
   have hj' : j<n*i.size:=by rw [← hol];exact (List.getElem?_eq_some_iff.1 hj).1
   have:cur.toList[j]? = some u:=by rw [List.getElem?_take_of_lt hj'] at hj;exact hj
   simpa [World.cell?,hg] using this) a k c0 news hl hnews (by omega) (by omega) (growslice_fits (by omega) hb2)
  have hge:=grownCap_ge w (n+k) (cap+n) T
  obtain⟨c,hcc⟩:∃ c,grownCap w (n+k) (cap+n) T=c+(n+k):=⟨grownCap w (n+k) (cap+n) T-(n+k),by omega⟩
  rw [hcc] at hr
  refine⟨w.heap.size,c,_,_,hr,rfl,rfl,rfl,by simp,fun k hk _=>heap_alloc_old w.drew _ hk,.inr (Nat.le_refl _),heap_alloc_new w.drew _,?_,?_⟩
  ·simp only [Array.size_append,List.size_toArray,size_zeroCells,hzs,hl,hol,Nat.add_sub_cancel]
   rw [Nat.add_mul c,e1];omega
  ·simp only [Array.toList_append]
   rw [e1]
   have:(cur.toList.take (n*i.size)++news).length=n*i.size+k*i.size:=by rw [List.length_append,hol,hl]
   rw [← this];exact List.take_left
end
section
variable {P:Program} {A S:Nat→Prop} {W:World} {κ κs:List Value} {Φ φs:List VP} {Q:Exit→Act→World→Prop} {m q:MS} {w:World}
def aftL2(P:Program)(b n k c:Nat)(C:Array Value)(m:MS):MS :=
 match m.cur with
 | .ops all (o::rest)=>{ m with cur:=.ops all rest,fr:=putF (dropB b m.fr) o.dst (some (.s (.o (.ls b (n+k) (c+(n+k)))))),bl:=setL m.bl b ⟨tyOf m b,[mkL ((c+(n+k))*szX P (tyOf m b)) C],true,none,false⟩ }
 | _=>m
def b0Of(m:MS):Option TypeId:=match opOf m with|some o=>(match o.op with|.buildSlice t 0 ⟨[]⟩=>some t|_=>none)|none=>none
def aftB0(T:TypeId)(m:MS):MS :=
 match m.cur with
 | .ops all (o::rest)=>{ m with cur:=.ops all rest,fr:=putF m.fr o.dst (some (.s (.o (.ls m.bl.length 0 (0+0))))),bl:=m.bl++[⟨T,[mkL 0 #[]],true,none,false⟩] }
 | _=>m
theorem ex_b0{t T:TypeId}{o:Oper}{ρ:Operand→Value}(hs:sliceE P t=some T)(hi:(P.info? T).isSome=true)(ho:o.op=.buildSlice t 0 ⟨[]⟩):(execOp ρ o).run P w=.ok (.value (.slice (some ⟨w.heap.size,0,none⟩) 0 0)) (w.alloc (.cells #[] T (0,0))):=by
 have hu:=sliceE_ex hs
 cases hq:P.info? T with
 | none=>rw [hq] at hi;cases hi
 | some it =>
  have e:(Instr.buildSlice t 0 #[]).run P w=.ok (.slice (some ⟨w.heap.size,0,none⟩) 0 0) (w.alloc (.cells #[] T (0,0))):=by
   unfold Instr.buildSlice
   simp only [Sem.run_bind,run_underlying hu,sizeOf,typeInfo,hq]
   simp [fill,newRow,go_sem,hq]
  unfold execOp
  have e2:(⟨[]⟩:Array (Nat×Operand)).map (fun (i,x)=>(i,ρ x))=#[]:=by simp
  simp only [ho,e2,Sem.run_bind,e,Result.andThen_ok]
  rfl
theorem Run.b0(TS T:TypeId)(rest:Run P S W (κ++[]) (Φ++[]) Q (aftB0 T (runM P far m)))(ha:b0Of (runM P far m)=some TS:=by kernel_rfl)(hs:sliceE P TS=some T:=by kernel_rfl)(hi:(P.info? T).isSome=true:=by kernel_rfl)(hf:fitB (runM P far m) κ Φ=true:=by kernel_rfl):Run P S W κ Φ Q m :=
 run_sound far <| Run.mk fun A0 E a w I G=>by
  obtain⟨β,κ', ℓ⟩:=E
  have e:=I.ek
  simp only at e
  subst e
  generalize hm:runM P far m=q at *
  unfold b0Of at ha
  cases ho:opOf q with
  | none=>rw [ho] at ha;cases ha
  | some o =>
   obtain⟨all,rst,hcur⟩:=op_cur ho
   obtain⟨_,hg⟩:=guard_ok G hcur ho
   rw [ho] at ha
   simp only at ha
   split at ha
   ·rename_i t hop
    cases ha
    rw [den_op hcur]
    refine wL_val hg (ex_b0 hs hi hop) ?_
    have hq:aftB0 T q={ q with cur:=.ops all rst,fr:=putF q.fr o.dst (some (.s (.o (.ls q.bl.length 0 (0+0))))),bl:=q.bl++[⟨T,[mkL 0 #[]],true,none,false⟩] }:=by unfold aftB0;rw [hcur]
    rw [hq] at rest
    have hbel:Below w.heap.size w (w.alloc (.cells #[] T (0,0))):=⟨rfl,rfl,rfl,by simp,fun k hk=>heap_alloc_old w _ hk⟩
    obtain⟨I1,ac1⟩:=I.more (κs:=[]) (φs:=[]) (xs:=[]) hf hbel (fun n=>rfl) (fun n=>rfl) (fun n ψ hn=>(by cases n<;>cases hn))
    have hf' := hf
    simp only [fitB,MS.okB,Bool.and_eq_true] at hf'
    obtain⟨⟨⟨f0,f1⟩,f2⟩,f3⟩:=hf'
    have hB:(w.alloc (.cells #[] T (0,0))).heap[w.heap.size]? = some (.cells #[] T (0,0)):=heap_alloc_new w _
    obtain⟨I2,s2⟩:=I1.addB (b:=w.heap.size) (T:=T) (nk:=q.nk) (nv:=q.nv) (cs:=[mkL 0 #[]]) rfl f1 rfl I.bel.size (lt_of hB) (.inr (Nat.le_refl _)) (fun c k hk=>Nat.ne_of_lt (I.lt c k hk)) ⟨[],by rw [hB];rfl,fun h=>(by cases h),fun N hN=>by
     have hN:(0:Nat)=N:=Option.some.inj hN
     rw [← hN];rfl,fun C hC=>by
     have hC:(#[]:Array Value)=C:=Option.some.inj hC
     subst hC;exact⟨[],rfl⟩⟩
    have G1:=ac1 _ G
    have G2:=put_v (G1.same s2 f0) o.dst (.s (.o (.ls q.bl.length 0 (0+0))))
    have e2:(SV.s (.o (.ls q.bl.length 0 (0+0)))).d ⟨fun c=>if c=q.bl.length then w.heap.size else (Env.more ⟨β,κ', ℓ⟩ [] q.nv []).β c,(Env.more ⟨β,κ', ℓ⟩ [] q.nv []).κ,(Env.more ⟨β,κ', ℓ⟩ [] q.nv []).ℓ⟩=.slice (some ⟨w.heap.size,0,none⟩) 0 0:=by
     show Value.slice (some ⟨if q.bl.length=q.bl.length then w.heap.size else _,0,none⟩) 0 (0+0)=_
     rw [if_pos rfl]
    rw [e2] at G2
    exact rest.r _ _ _ _ I2 G2
   ·cases ha
end
section
variable {P:Program} {A S:Nat→Prop} {W:World} {κ κs:List Value} {Φ φs:List VP} {Q:Exit→Act→World→Prop} {m q:MS} {E:Env} {w:World} {β:Nat→Nat} {ℓ:Nat→Value} {b0:Act}
theorem lenK_at{t:TypeId}{v:Value}(ha:((opOf q).bind (lenOf q.fr)).map (fun q=>(q.1,q.2.d ⟨β,κ,ℓ⟩))=some (t,v))(G:AgF q.df ⟨β,κ,ℓ⟩ q.fr b0):∃ o,opOf q=some o∧∃ x,o.op=.call ⟨.builtin .len,⟨[x]⟩,⟨[t]⟩⟩∧b0.eval x=v:=by
 cases ho:opOf q with
 | none=>rw [ho] at ha;cases ha
 | some o =>
  rw [ho] at ha
  refine⟨o,rfl,?_⟩
  have ha:(lenOf q.fr o).map _=some _:=ha
  unfold lenOf at ha
  split at ha
  ·rename_i x t0 hop
   cases hx:eoF q.fr x with
   | none=>rw [hx] at ha;cases ha
   | some v =>
    rw [hx] at ha
    simp only [Option.map_some,Option.some.injEq,Prod.mk.injEq] at ha
    obtain⟨rfl,rfl⟩:=ha
    exact⟨x,hop,eval_eo G x _ hx⟩
  ·cases ha
def iaK(m:MS):Option (TypeId×SV×SV) :=
 match opOf m with
 | some o=>match o.op with
  | .indexAddr TS x y=>match eoF m.fr x,eoF m.fr y with
   | some u,some v=>some (TS,u,v)
   | _,_=>none
  | _=>none
 | none=>none
theorem iaK_at{TS:TypeId}{a c:Value}(ha:(iaK q).map (fun q=>(q.1,q.2.1.d ⟨β,κ,ℓ⟩,q.2.2.d ⟨β,κ,ℓ⟩))=some (TS,a,c))(G:AgF q.df ⟨β,κ,ℓ⟩ q.fr b0):∃ o,opOf q=some o∧∃ x y,o.op=.indexAddr TS x y∧b0.eval x=a∧b0.eval y=c:=by
 unfold iaK at ha
 cases ho:opOf q with
 | none=>rw [ho] at ha;cases ha
 | some o =>
  rw [ho] at ha
  refine⟨o,rfl,?_⟩
  simp only at ha
  split at ha
  ·rename_i TS' x y hop
   split at ha
   ·rename_i u v hx hy
    simp only [Option.map_some,Option.some.injEq,Prod.mk.injEq] at ha
    obtain⟨rfl,rfl,rfl⟩:=ha
    exact⟨x,y,hop,eval_eo G x _ hx,eval_eo G y _ hy⟩
   ·cases ha
  ·cases ha
def ldK(m:MS):Option (TypeId×SV) :=
 match opOf m with
 | some o=>match o.op with
  | .load T x=>(eoF m.fr x).map fun v=>(T,v)
  | _=>none
 | none=>none
theorem ldK_at{T:TypeId}{a:Value}(ha:(ldK q).map (fun q=>(q.1,q.2.d ⟨β,κ,ℓ⟩))=some (T,a))(G:AgF q.df ⟨β,κ,ℓ⟩ q.fr b0):∃ o,opOf q=some o∧∃ x,o.op=.load T x∧b0.eval x=a:=by
 unfold ldK at ha
 cases ho:opOf q with
 | none=>rw [ho] at ha;cases ha
 | some o =>
  rw [ho] at ha
  refine⟨o,rfl,?_⟩
  simp only at ha
  split at ha
  ·rename_i T' x hop
   cases hx:eoF q.fr x with
   | none=>rw [hx] at ha;cases ha
   | some v =>
    rw [hx] at ha
    simp only [Option.map_some,Option.some.injEq,Prod.mk.injEq] at ha
    obtain⟨rfl,rfl⟩:=ha
    exact⟨x,hop,eval_eo G x _ hx⟩
  ·cases ha
def faK(m:MS):Option (TypeId×Nat×SV) :=
 match opOf m with
 | some o=>match o.op with
  | .fieldAddr T x f=>(eoF m.fr x).map fun v=>(T,f,v)
  | _=>none
 | none=>none
theorem faK_at{T:TypeId}{f:Nat}{a:Value}(ha:(faK q).map (fun q=>(q.1,q.2.1,q.2.2.d ⟨β,κ,ℓ⟩))=some (T,f,a))(G:AgF q.df ⟨β,κ,ℓ⟩ q.fr b0):∃ o,opOf q=some o∧∃ x,o.op=.fieldAddr T x f∧b0.eval x=a:=by
 unfold faK at ha
 cases ho:opOf q with
 | none=>rw [ho] at ha;cases ha
 | some o =>
  rw [ho] at ha
  refine⟨o,rfl,?_⟩
  simp only at ha
  split at ha
  ·rename_i T' x f' hop
   cases hx:eoF q.fr x with
   | none=>rw [hx] at ha;cases ha
   | some v =>
    rw [hx] at ha
    simp only [Option.map_some,Option.some.injEq,Prod.mk.injEq] at ha
    obtain⟨rfl,rfl,rfl⟩:=ha
    exact⟨x,hop,eval_eo G x _ hx⟩
  ·cases ha
theorem x_ixo(sz:Nat){t:TypeId}{b f n c j:Nat}{o:Oper}{ρ:Operand→Value}{x y:Operand}(hx:ρ x=.slice (some ⟨b,f,none⟩) n c)(hy:ρ y=.int .i64 j)(hu:((sliceE P t).bind P.info?).map (·.size)=some sz)(ho:o.op=.indexAddr t x y)(h1:j<n):(execOp ρ o).run P w=.ok (.value (.pointer (some ⟨b,f+sz*j,none⟩))) w:=by
 cases hse:sliceE P t with
 | none=>rw [hse] at hu;cases hu
 | some e =>
 rw [hse] at hu
 cases hie:P.info? e with
 | none=>simp [hie] at hu
 | some q =>
  have hz:q.size=sz:=by simpa [hie] using hu
  unfold execOp
  simp only [ho,hx,hy]
  have hu' := sliceE_ex hse
  have he:P.elem t=e:=by unfold Program.elem;rw [hu']
  have e:=run_indexAt_slice (P:=P) (w:=w) t ⟨b,f,none⟩ n c .i64 j (by rw [he];exact hu')
  rw [if_pos ⟨by omega,by omega⟩,he] at e
  simp [e,sizeOf,typeInfo,hie,hz,Result.andThen,Addr.add_lit,Nat.mul_comm]
theorem ldK_op{b off sz:Nat}{T TT:TypeId}{fr:Nat×Nat}{es:List Value}{cur:Array Value}(hB:w.heap[b]? = some (.cells cur TT fr))(hC:(cur.toList.drop off).take sz=es)(hl:ldB P T sz=true)(hes:es.length=sz)(h0:Nat.blt 0 sz=true){o:Oper}{ρ:Operand→Value}{x:Operand}(hop:o.op=.load T x)(hp:ρ x=.pointer (some ⟨b,off,none⟩)):(execOp ρ o).run P w=.ok (.value (ldV P T es)) w:=by
 have hj' : off+sz≤cur.toList.length:=take_ge (by rw [hC,hes]) (by simpa [Nat.blt_eq] using h0)
 unfold ldB at hl
 split at hl
 ·rename_i n' hn'
  rw [Bool.and_eq_true] at hl
  have e1:=Nat.eq_of_beq_eq_true hl.1
  subst e1
  unfold ldV
  cases hag:aggB P T with
  | true =>
   rw [if_pos rfl]
   obtain⟨d', k1,k2⟩:=aggB_ex hag
   refine ex_load_part T _ hop hp hB k1 (by cases d'<;>first|rfl|cases k2) n' hn' (by simpa using hj') ?_
   apply Array.toList_inj.1
   rw [Array.toList_extract,List.extract_eq_take_drop,← hC]
   congr 1;omega
  | false =>
   rw [if_neg (by decide)]
   have h2:=hl.2
   rw [hag,Bool.false_or,Bool.and_eq_true] at h2
   have e1:=Nat.eq_of_beq_eq_true h2.1
   subst e1
   refine x_ldc hp hB hop h2.2 ?_
   rw [nth_eq]
   cases es with
   | nil=>cases hes
   | cons e0 l =>
    show _=some e0
    have:(cur.toList.drop off).take 1=[e0]:=by rw [hC];cases l with|nil=>rfl|cons=>simp at hes
    have h5:=congrArg (fun l=>l[0]?) this
    simpa [List.getElem?_take,List.getElem?_drop] using h5
 ·cases hl
theorem Run.lnK(p:Option Addr)(n c:Nat)(t:TypeId)(rest:Run P S W (κ++[.int .i64 (n:Nat)]) (Φ++[]) Q (aft (runM P far m) kb 1 0))(hu:(sliceE P t).isSome=true:=by kernel_rfl)(ha:∀ β ℓ,((opOf (runM P far m)).bind (lenOf (runM P far m).fr)).map (fun q=>(q.1,q.2.d ⟨β,κ,ℓ⟩))=some (t,.slice p n c):=by intro β ℓ;kernel_rfl)(hf:fitB (runM P far m) κ Φ=true:=by kernel_rfl):Run P S W κ Φ Q m :=
 Run.va (V:=.int .i64 (n:Nat)) [.int .i64 (n:Nat)] kb (a:=fun o β ℓ ρ=>∃ x,o.op=.call ⟨.builtin .len,⟨[x]⟩,⟨[t]⟩⟩∧ρ x=.slice p n c) (fun {A} β ℓ w o ρ I ⟨x,ho,hx⟩=>x_lens hx ho hu) rest (fun β ℓ a G=>lenK_at (ha β ℓ) G) (fun _ _=>rfl) rfl hf rfl
theorem RunQ.lnK(p:Option Addr)(n c:Nat)(t:TypeId)(rest:RunQ P S W (κ++[.int .i64 (n:Nat)]) (Φ++[]) Q (aft (runQ P far m) kb 1 0))(hu:(sliceE P t).isSome=true:=by kernel_rfl)(ha:∀ β ℓ,((opOf (runQ P far m)).bind (lenOf (runQ P far m).fr)).map (fun q=>(q.1,q.2.d ⟨β,κ,ℓ⟩))=some (t,.slice p n c):=by intro β ℓ;kernel_rfl)(hf:fitB (runQ P far m) κ Φ=true:=by kernel_rfl):RunQ P S W κ Φ Q m :=
 RunQ.va (V:=.int .i64 (n:Nat)) [.int .i64 (n:Nat)] kb (a:=fun o β ℓ ρ=>∃ x,o.op=.call ⟨.builtin .len,⟨[x]⟩,⟨[t]⟩⟩∧ρ x=.slice p n c) (fun {A} β ℓ w o ρ I ⟨x,ho,hx⟩=>x_lens hx ho hu) rest (fun β ℓ a G=>lenK_at (ha β ℓ) G) (fun _ _=>rfl) rfl hf rfl
theorem Run.iaK(p:Option Addr)(b off n c j sz:Nat)(TS:TypeId)(hp:p=some ⟨b,off,none⟩)(hj:j<n)(rest:Run P S W (κ++[.pointer (some ⟨b,off+sz*j,none⟩)]) (Φ++[]) Q (aft (runM P far m) kb 1 0))(hu:((sliceE P TS).bind P.info?).map (·.size)=some sz:=by kernel_rfl)(ha:∀ β ℓ,(Eng.iaK (runM P far m)).map (fun q=>(q.1,q.2.1.d ⟨β,κ,ℓ⟩,q.2.2.d ⟨β,κ,ℓ⟩))=some (TS,.slice p n c,.int .i64 j):=by intro β ℓ;kernel_rfl)(hf:fitB (runM P far m) κ Φ=true:=by kernel_rfl):Run P S W κ Φ Q m :=
 Run.va (V:=.pointer (some ⟨b,off+sz*j,none⟩)) [.pointer (some ⟨b,off+sz*j,none⟩)] kb (a:=fun o β ℓ ρ=>∃ x y,o.op=.indexAddr TS x y∧ρ x=.slice p n c∧ρ y=.int .i64 j) (fun {A} β ℓ w o ρ I ⟨x,y,ho,hx,hy⟩=>x_ixo sz (by rw [hx,hp]) hy hu ho hj) rest (fun β ℓ a G=>iaK_at (ha β ℓ) G) (fun _ _=>rfl) rfl hf rfl
theorem RunQ.iaK(p:Option Addr)(b off n c j sz:Nat)(TS:TypeId)(hp:p=some ⟨b,off,none⟩)(hj:j<n)(rest:RunQ P S W (κ++[.pointer (some ⟨b,off+sz*j,none⟩)]) (Φ++[]) Q (aft (runQ P far m) kb 1 0))(hu:((sliceE P TS).bind P.info?).map (·.size)=some sz:=by kernel_rfl)(ha:∀ β ℓ,(Eng.iaK (runQ P far m)).map (fun q=>(q.1,q.2.1.d ⟨β,κ,ℓ⟩,q.2.2.d ⟨β,κ,ℓ⟩))=some (TS,.slice p n c,.int .i64 j):=by intro β ℓ;kernel_rfl)(hf:fitB (runQ P far m) κ Φ=true:=by kernel_rfl):RunQ P S W κ Φ Q m :=
 RunQ.va (V:=.pointer (some ⟨b,off+sz*j,none⟩)) [.pointer (some ⟨b,off+sz*j,none⟩)] kb (a:=fun o β ℓ ρ=>∃ x y,o.op=.indexAddr TS x y∧ρ x=.slice p n c∧ρ y=.int .i64 j) (fun {A} β ℓ w o ρ I ⟨x,y,ho,hx,hy⟩=>x_ixo sz (by rw [hx,hp]) hy hu ho hj) rest (fun β ℓ a G=>iaK_at (ha β ℓ) G) (fun _ _=>rfl) rfl hf rfl
theorem Run.faK(b off off' f:Nat)(T:TypeId)(rest:Run P S W (κ++[.pointer (some ⟨b,off', none⟩)]) (Φ++[]) Q (aft (runM P far m) kb 1 0))(he:∀ w,(Instr.fieldAt T (.pointer (some ⟨b,off,none⟩)) f).run P w=.ok (.pointer (some ⟨b,off', none⟩)) w:=by intro w;kernel_rfl)(ha:∀ β ℓ,(Eng.faK (runM P far m)).map (fun q=>(q.1,q.2.1,q.2.2.d ⟨β,κ,ℓ⟩))=some (T,f,.pointer (some ⟨b,off,none⟩)):=by intro β ℓ;kernel_rfl)(hf:fitB (runM P far m) κ Φ=true:=by kernel_rfl):Run P S W κ Φ Q m :=
 Run.va (V:=.pointer (some ⟨b,off', none⟩)) [.pointer (some ⟨b,off', none⟩)] kb (a:=fun o β ℓ ρ=>∃ x,o.op=.fieldAddr T x f∧ρ x=.pointer (some ⟨b,off,none⟩)) (fun {A} β ℓ w o ρ I ⟨x,ho,hx⟩=>x_fa hx ho (he w)) rest (fun β ℓ a G=>faK_at (ha β ℓ) G) (fun _ _=>rfl) rfl hf rfl
theorem Run.ldK(b off sz:Nat)(T TT:TypeId)(fr:Nat×Nat)(es:List Value)(sh:SV)(cur:Array Value)(hB:W.heap[b]? = some (.cells cur TT fr))(hC:(cur.toList.drop off).take sz=es)(h1:es.all (·.oneCell')=true)(hes:es.length=sz)(rest:Run P S W (κ++es) (Φ++[]) Q (aft (runM P far m) sh sh.nk 0))(ha:∀ β ℓ,(Eng.ldK (runM P far m)).map (fun q=>(q.1,q.2.d ⟨β,κ,ℓ⟩))=some (T,.pointer (some ⟨b,off,none⟩)):=by intro β ℓ;kernel_rfl)(hl:ldB P T sz=true:=by kernel_rfl)(h0:Nat.blt 0 sz=true:=by kernel_rfl)(hV:∀ β ℓ,ldV P T es=sh.d ⟨β,es,ℓ⟩:=by intro β ℓ;kernel_rfl)(hf:fitB (runM P far m) κ Φ=true:=by kernel_rfl)(hn:Nat.beq sh.nk es.length=true:=by kernel_rfl):Run P S W κ Φ Q m :=
 Run.va (V:=ldV P T es) es sh (a:=fun o β ℓ ρ=>∃ x,o.op=.load T x∧ρ x=.pointer (some ⟨b,off,none⟩)) (fun {A} β ℓ w o ρ I ⟨x,ho,hx⟩=>ldK_op (by rw [I.bel.block b (lt_of hB)];exact hB) hC hl hes h0 ho hx) rest (fun β ℓ a G=>ldK_at (ha β ℓ) G) hV h1 hf hn
theorem RunQ.ldK(b off sz:Nat)(T TT:TypeId)(fr:Nat×Nat)(es:List Value)(sh:SV)(cur:Array Value)(hB:W.heap[b]? = some (.cells cur TT fr))(hC:(cur.toList.drop off).take sz=es)(h1:es.all (·.oneCell')=true)(hes:es.length=sz)(rest:RunQ P S W (κ++es) (Φ++[]) Q (aft (runQ P far m) sh sh.nk 0))(ha:∀ β ℓ,(Eng.ldK (runQ P far m)).map (fun q=>(q.1,q.2.d ⟨β,κ,ℓ⟩))=some (T,.pointer (some ⟨b,off,none⟩)):=by intro β ℓ;kernel_rfl)(hl:ldB P T sz=true:=by kernel_rfl)(h0:Nat.blt 0 sz=true:=by kernel_rfl)(hV:∀ β ℓ,ldV P T es=sh.d ⟨β,es,ℓ⟩:=by intro β ℓ;kernel_rfl)(hf:fitB (runQ P far m) κ Φ=true:=by kernel_rfl)(hn:Nat.beq sh.nk es.length=true:=by kernel_rfl):RunQ P S W κ Φ Q m :=
 RunQ.va (V:=ldV P T es) es sh (a:=fun o β ℓ ρ=>∃ x,o.op=.load T x∧ρ x=.pointer (some ⟨b,off,none⟩)) (fun {A} β ℓ w o ρ I ⟨x,ho,hx⟩=>ldK_op (by rw [I.bel.block b (lt_of hB)];exact hB) hC hl hes h0 ho hx) rest (fun β ℓ a G=>ldK_at (ha β ℓ) G) hV h1 hf hn
end
section
variable {P:Program} {w:World} {TS ty T:TypeId} {i:TypeInfo} {z:Value} {sz bt k:Nat} (ht:P.underlying TS=some (.slice T)) (hi:P.info? T=some i) (hz:i.zero=some z) (hsize:i.size=sz) (hby:i.bytes=bt) (hzs:z.cells.size=sz) (hsz:0<sz) (hb:bt≤100000)
 (p:Option Addr) (c0:Nat) (news:List Value) (hl:news.length=k*sz) (hnews:∀ a,p=some a→∀ j u,news[j]? = some u→w.cell? (a.add j)=some u) (hp:k≠0→p≠none)
include ht hi hz hsize hby hzs hsz hb hl hnews hp
theorem ap_ownsK(h1:∀ u ∈ news,u.oneCell'=true){g n cap:Nat}{cur:Array Value}(hg:w.heap[g]? = some (.cells cur T (0,0)))(hc:cur.size=(cap+n)*sz)(hn:n+k≤100000):∃ g' c cur' w', (Builtin.append_ #[TS,TS] ty #[.slice (some ⟨g,0,none⟩) n (cap+n),.slice p k c0]).run P w=.ok (.slice (some ⟨g', 0,none⟩) (n+k) (c+(n+k))) w'∧w'.os=w.os∧w'.tape=w.tape∧w'.output=w.output∧w.heap.size≤w'.heap.size ∧
   (∀ j,j<w.heap.size→j≠g→w'.heap[j]? = w.heap[j]?)∧(g'=g∨w.heap.size≤g')∧w'.heap[g']? = some (.cells cur' T (0,0))∧cur'.size=(c+(n+k))*sz∧cur'.toList.take ((n+k)*sz)=cur.toList.take (n*sz)++news:=by
 cases hpp:p with
 | some a=>exact ap_owns ht hi hz hsize hby hzs hsz hb a c0 news hl (hnews a hpp) h1 hg hc hn
 | none =>
  have hk:k=0:=Decidable.byContradiction fun h=>hp h hpp
  subst hk
  have hnil:news=[]:=List.length_eq_zero_iff.1 (by rw [hl];omega)
  subst hnil
  have hr:=run_append_nothing (P:=P) w TS TS ty T i ht hi (some ⟨g,0,none⟩) n (cap+n) (by omega) (.slice none 0 c0) (Src.ofNil w ht c0)
  exact⟨g,cap,cur,w,hr,rfl,rfl,rfl,Nat.le_refl _,fun _ _ _=>rfl,.inl rfl,hg,hc,by simp⟩
end
section
variable {P:Program} {A S:Nat→Prop} {W:World} {κ κs:List Value} {Φ φs:List VP} {Q:Exit→Act→World→Prop} {m q:MS} {w:World}
def alOkK(P:Program)(TS:TypeId)(b:Nat)(m:MS):Bool :=
 match nth m.bl b with
 | some k=>elB P TS k.ty&&Rgn.Loc k.ty&&k.own&&k.fact.isNone&&Nat.beq k.cells.length 1&&othB m b
 | none=>false
theorem Run.ak(TS:TypeId)(b n cap:Nat)(p:Option Addr)(k c0 b2 off:Nat)(C C' cur:Array Value)(TT:TypeId)(fr:Nat×Nat)(X:List Value)(sz:Nat)(hn:n+k≤100000)(hCs:C.size=n*sz)(hp:k≠0→p=some ⟨b2,off,none⟩)(hB2:k≠0→W.heap[b2]? = some (.cells cur TT fr))(hX:(cur.toList.drop off).take (k*sz)=X)(hXl:X.length=k*sz)(hX1:X.all (·.oneCell')=true)(hC': C++X.toArray=C')(rest:∀ c,Run P S W κ Φ Q (aftL2 P b n k c C' (runM P far m)))(ha:∀ β ℓ,(apOf (runM P far m)).map (fun q=>(q.1,q.2.1,q.2.2.d ⟨β,κ,ℓ⟩))=some (TS,.s (.o (.ls b n (cap+n))),.slice p k c0):=by intro β ℓ;kernel_rfl)(hm:(nth (runM P far m).bl b).map (fun k=>(sizeT k.cells,contT k.cells))=some (some ((cap+n)*szX P (tyOf (runM P far m) b)),some C):=by kernel_rfl)(hz:szX P (tyOf (runM P far m) b)=sz:=by kernel_rfl)(hok:alOkK P TS b (runM P far m)=true:=by kernel_rfl)(hf:fitB (runM P far m) κ Φ=true:=by kernel_rfl):Run P S W κ Φ Q m :=
 run_sound far <| Run.mk fun A0 E a w I G=>by
  obtain⟨β,κ', ℓ⟩:=E
  have e:=I.ek
  simp only at e
  subst e
  subst hC'
  rw [← hz] at hCs hX hXl
  generalize hm' : runM P far m=q at *
  have ha:=ha β ℓ
  obtain⟨⟨TS', u,v⟩,ha,hav⟩:=Option.map_eq_some_iff.1 ha
  simp only [Prod.mk.injEq] at hav
  obtain⟨rfl,rfl,hv⟩:=hav
  obtain⟨o,all,rst,s,x,hcur,hg,hop,hs,hx⟩:=ap_enter ha G
  rw [hv] at hx
  unfold alOkK at hok
  split at hok
  ·rename_i k1 hk
   simp only [Bool.and_eq_true,Bool.not_eq_true'] at hok
   obtain⟨⟨⟨⟨⟨d1,d6⟩,g1⟩,g2⟩,g7⟩,g9⟩:=hok
   obtain⟨i,z,t1,t2,t3,t4,t5,t6,t7⟩:=elB_ex d1
   have g2:k1.fact=none:=by cases h:k1.fact with|none=>rfl|some _=>rw [h] at g2;cases g2
   have g7:=Nat.eq_of_beq_eq_true g7
   have hty:tyOf q b=k1.ty:=by unfold tyOf;rw [hk]
   rw [hk,hty] at hm
   rw [hty] at hCs hX hXl
   simp only [Option.map_some,Option.some.injEq,Prod.mk.injEq] at hm
   obtain⟨r,hB,_,hN,hct⟩:=I.blk b k1 hk g2
   have hN:=hN _ hm.1
   obtain⟨r', rfl⟩:=hct C hm.2
   rw [hid_body g7 hm.2] at hN
   rw [hid_body g7 hm.2,List.map_nil,List.nil_append] at hB
   have hcs:(⟨C.toList++r'⟩:Array Value).size=(cap+n)*i.size:=by
    rw [t7,← hN];simp
   have hnews:∀ a,p=some a→∀ j u,X[j]? = some u→w.cell? (a.add j)=some u:=fun a hpa j u hj=>by
    have hj1:j<X.length:=(List.getElem?_eq_some_iff.1 hj).1
    have hk0:k≠0:=fun h=>by rw [hXl,h] at hj1;omega
    rw [hp hk0] at hpa
    cases hpa
    rw [Addr.add_lit]
    have hB3:w.heap[b2]? = some (.cells cur TT fr):=by rw [I.bel.block b2 (lt_of (hB2 hk0))];exact hB2 hk0
    have hj2:(cur.toList.drop off)[j]? = some u:=by rw [← hX,List.getElem?_take_of_lt (by omega)] at hj;exact hj
    have hj3:cur.toList[off+j]? = some u:=by rw [List.getElem?_drop] at hj2;exact hj2
    simpa [World.cell?,hB3] using hj3
   obtain⟨g', c,cur', w', hr,w1,w2,w3,w4,w5,w6,w7,w8,w9⟩:=ap_ownsK (P:=P) (w:=w) (ty:=o.type) (k:=k) t1 t2 t3 rfl rfl t4 t5 t6 p c0 X (by rw [hXl,t7]) hnews (fun h=>by rw [hp h];exact fun h=>by cases h) (fun u hu=>List.all_eq_true.1 hX1 u hu) hB hcs hn
   rw [den_op hcur]
   refine wpList_step fun K hK=>?_
   rw [if_pos hg]
   simp only [Oper.wp,ex_append hop hs hx hr,Oper.upon]
   have hR:=rest c
   have hq:aftL2 P b n k c (C++X.toArray) q={ q with cur:=.ops all rst,fr:=putF (dropB b q.fr) o.dst (some (.s (.o (.ls b (n+k) (c+(n+k)))))),bl:=setL q.bl b ⟨k1.ty,[mkL ((c+(n+k))*szX P k1.ty) (C++X.toArray)],true,none,false⟩ }:=by unfold aftL2;rw [hcur,hty]
   rw [hq] at hR
   have hothers:∀ c l,nth q.bl c=some l→c≠b→l.cells.all (noB b)=true:=fun c l h hc=>by
    have:=List.all_eq_true.1 g9 c (List.mem_range.2 (nth_lt h))
    rw [h,Bool.or_eq_true] at this
    exact this.resolve_left fun e=>hc (Nat.eq_of_beq_eq_true e)
   have htk:(⟨C.toList++r'⟩:Array Value).toList.take (n*i.size)=C.toList:=by
    rw [t7,← hCs,← Array.length_toList];exact List.take_left
   rw [htk] at w9
   have I2:=I.reB (g:=g') (cs:=[mkL ((c+(n+k))*szX P k1.ty) (C++X.toArray)]) hk g2 g1 d6 (fun c l h hc=>noB_L (hothers c l h hc)) w1 w2 w3 w4 w5 w6 (lt_of w7) ⟨cur'.toList,w7,fun h=>(by cases h),fun N hN=>by
    have hN:(c+(n+k))*szX P k1.ty=N:=Option.some.inj hN
    show 0+cur'.toList.length=N
    rw [Array.length_toList,w8,← hN,t7];omega,fun C' hC' => by
    have hC' : C++X.toArray=C' := Option.some.inj hC'
    subst hC'
    refine⟨cur'.toList.drop ((n+k)*i.size),?_⟩
    have h6:(C++X.toArray).toList=cur'.toList.take ((n+k)*i.size):=by rw [w9];simp
    rw [h6,List.take_append_drop]⟩
   have G1:=G.drop (b:=b) (g:=g')
   have G2:=put_v G1 o.dst (.s (.o (.ls b (n+k) (c+(n+k)))))
   have e2:(SV.s (.o (.ls b (n+k) (c+(n+k))))).d (reE ⟨β,κ', ℓ⟩ b g')=.slice (some ⟨g', 0,none⟩) (n+k) (c+(n+k)):=by
    show Value.slice (some ⟨if b=b then g' else _,0,none⟩) (n+k) (c+(n+k))=_
    rw [if_pos rfl]
   rw [e2] at G2
   exact hK _ _ (hR.r _ _ _ w' I2 G2)
  ·cases hok
end
end Go.Proofs.YtcdbmjnipaochaaGreat.Eng
namespace Go.Proofs.YtcdbmjnipaochaaGreat
open Go.RowKit Rgn Eng
variable {S:Nat→Prop} {W:World}
structure FRow (W:World) (l:List RF) (p:Option Addr) (b off:Nat) (cur:Array Value) (TT:TypeId) (fr:Nat×Nat):Prop where
 hp:l.length≠0→p=some ⟨b,off,none⟩
 hB:l.length≠0→W.heap[b]? = some (.cells cur TT fr)
 hR:(cur.toList.drop off).take (l.length*4)=(frsC l).toList
theorem fcut_at{L c:List Value}{off m a n:Nat}(h:(L.drop off).take m=c)(hm:a+n≤m):(L.drop (off+a)).take n=(c.drop a).take n:=by
 rw [← h,List.drop_take,List.take_take,List.drop_drop,Nat.min_eq_left (by omega)]
section
variable {l:List RF} {p:Option Addr} {b off:Nat} {cur:Array Value} {TT:TypeId} {fr:Nat×Nat} (R:FRow W l p b off cur TT fr)
include R
theorem FRow.at{j:Nat}(h:j<l.length):(cur.toList.drop (off+4*j)).take 4=(rfC (l.getD j rz.re)).toList:=(fcut_at R.hR (by omega)).trans (frsC_at h)
theorem FRow.a{j:Nat}(h:j<l.length):(cur.toList.drop (off+4*j+1)).take 1=[.string (l.getD j rz.re).a.s]:=(part_at (R.at h) (by decide)).trans rfl
theorem FRow.y{j:Nat}(h:j<l.length):(cur.toList.drop (off+4*j+2+1)).take 1=[.string (l.getD j rz.re).b.s]:=(part_at (k:=3) (R.at h) (by decide)).trans rfl
theorem FRow.pe{j:Nat}(h:j<l.length):p=some ⟨b,off,none⟩:=R.hp (by omega)
theorem FRow.Be{j:Nat}(h:j<l.length):W.heap[b]? = some (.cells cur TT fr):=R.hB (by omega)
end
theorem wrap_63{n:Int}(h:0≤n)(h1:n<2^63):IntKind.wrap .i64 n=n:=by
 have h2:n%2^64=n:=Int.emod_eq_of_lt h (by omega)
 unfold IntKind.wrap
 rw [show IntKind.bits .i64=64 from rfl,h2]
 have:¬ (n≥(2^(64-1):Int)):=by omega
 simp;intro _ h;omega
theorem l23longK(l:List RF)(p:Option Addr)(c:Nat){b off:Nat}{cur:Array Value}{TT:TypeId}{fr:Nat×Nat}(R:FRow W l p b off cur TT fr)(p0:l.length≤9223372036854775807):Calls Tryz.prog 41 #[.slice p l.length c] W (RetV (.bool (l.any lgD)) W):=by
 refine Run.goP (S:=Z0) (Pack.nil.k (.slice p l.length c) [.slice p l.length c] kb) Tryz.func41 rfl ?_
 refine Run.tl (l.length+1) ?_
 refine Run.lpX (ι:=Nat) [(0,.s (.o (.k 0))),(3,.s (.o (.k 1))),(4,.s (.o (.k 1))),(5,.s (.o (.k 0)))]
  [] 2 0
  (fun x=>[.slice p l.length c,.int .i64 (x:Nat)]) (fun _=>[])
  (fun r x=>x+r=l.length+1∧x≤l.length∧(l.drop x).any lgD=l.any lgD) ?_ (fun L=>?_)
 · intro r i h IH
   obtain⟨h1,h2,h3⟩:=h
   refine Run.lnK p l.length c 104 ?_
   by_cases hi:i<l.length
   · obtain⟨r', rfl⟩:∃ r', r=r'+1:=⟨r-1,by omega⟩
     refine Run.ik .lss i (l.length:Nat) true (dT (by omega)) ?_
     rw [← h3,drop_rf hi,List.any_cons]
     have fa:=R.a hi
     have fb:=R.y hi
     have hpe:=R.pe hi
     have hBe:=R.Be hi
     have hN:∀ {e:Bool},lgD (l.getD i rz.re)=e→e=false→(l.drop (i+1)).any lgD=(lgD (l.getD i rz.re)||(l.drop (i+1)).any lgD):=fun h he=>by rw [h,he];rfl
     have R:lgD (l.getD i rz.re)=false→Run Tryz.prog Z0 W _ _ (bodyPost Tryz.prog Tryz.f41 (RetV (.bool (lgD (l.getD i rz.re)||(l.drop (i+1)).any lgD)) W)) _:=fun he=>by
       have R:=IH r' (i+1) rfl ⟨by omega,hi,by rw [← h3,drop_rf hi,List.any_cons,he];rfl⟩
       rw [← h3,drop_rf hi,List.any_cons] at R
       exact R
     clear IH h3
     generalize l.getD i rz.re=q at *
     refine Run.iaK p b off l.length c i 4 104 hpe hi ?_
     refine Run.faK b (off+4*i) (off+4*i) 0 25 ?_
     refine Run.faK b (off+4*i) (off+4*i+1) 1 23 ?_
     refine Run.ldK b (off+4*i+1) 1 9 TT fr [.string q.a.s] kb cur hBe fa rfl rfl ?_
     refine Run.sl q.a.s 9 Tryz.underlying9 ?_
     refine (Bool.eq_false_or_eq_true (decide (60<((q.a.s.size:Nat):Int)))).elim (fun c0=>?_) (fun c0=>?_)
     · refine Run.bi (op:=.gtr) (t:=3) (a:=.int .i64 ((q.a.s.size:Nat):Int)) (c:=.int .i64 60) [] (cb true) (fun w o ρ x y t' ho hx hy=>ex_icmp .gtr _ _ _ (congrArg some c0) ho hx hy) ?_
       refine Run.iaK p b off l.length c i 4 104 hpe hi ?_
       refine Run.faK b (off+4*i) (off+4*i) 0 25 ?_
       refine Run.faK b (off+4*i) (off+4*i+1) 1 23 ?_
       refine Run.ldK b (off+4*i+1) 1 9 TT fr [.string q.a.s] kb cur hBe fa rfl rfl ?_
       refine Run.sl q.a.s 9 Tryz.underlying9 ?_
       refine (Bool.eq_false_or_eq_true (decide (((q.a.s.size:Nat):Int)≤1024))).elim (fun c1=>?_) (fun c1=>?_)
       · refine Run.bi (op:=.leq) (t:=3) (a:=.int .i64 ((q.a.s.size:Nat):Int)) (c:=.int .i64 1024) [] (cb true) (fun w o ρ x y t' ho hx hy=>ex_icmp .leq _ _ _ (congrArg some c1) ho hx hy) ?_
         exact Run.rV (V' := .bool true) (congrArg Value.bool (by rw [lgD_1 c0 c1];rfl))
       · refine Run.bi (op:=.leq) (t:=3) (a:=.int .i64 ((q.a.s.size:Nat):Int)) (c:=.int .i64 1024) [] (cb false) (fun w o ρ x y t' ho hx hy=>ex_icmp .leq _ _ _ (congrArg some c1) ho hx hy) ?_
         refine Run.iaK p b off l.length c i 4 104 hpe hi ?_
         refine Run.faK b (off+4*i) (off+4*i+2) 1 25 ?_
         refine Run.faK b (off+4*i+2) (off+4*i+2+1) 1 23 ?_
         refine Run.ldK b (off+4*i+2+1) 1 9 TT fr [.string q.b.s] kb cur hBe fb rfl rfl ?_
         refine Run.sl q.b.s 9 Tryz.underlying9 ?_
         refine (Bool.eq_false_or_eq_true (decide (60<((q.b.s.size:Nat):Int)))).elim (fun c2=>?_) (fun c2=>?_)
         · refine Run.bi (op:=.gtr) (t:=3) (a:=.int .i64 ((q.b.s.size:Nat):Int)) (c:=.int .i64 60) [] (cb true) (fun w o ρ x y t' ho hx hy=>ex_icmp .gtr _ _ _ (congrArg some c2) ho hx hy) ?_
           refine Run.iaK p b off l.length c i 4 104 hpe hi ?_
           refine Run.faK b (off+4*i) (off+4*i+2) 1 25 ?_
           refine Run.faK b (off+4*i+2) (off+4*i+2+1) 1 23 ?_
           refine Run.ldK b (off+4*i+2+1) 1 9 TT fr [.string q.b.s] kb cur hBe fb rfl rfl ?_
           refine Run.sl q.b.s 9 Tryz.underlying9 ?_
           refine (Bool.eq_false_or_eq_true (decide (((q.b.s.size:Nat):Int)≤1024))).elim (fun c3=>?_) (fun c3=>?_)
           · refine Run.bi (op:=.leq) (t:=3) (a:=.int .i64 ((q.b.s.size:Nat):Int)) (c:=.int .i64 1024) [] (cb true) (fun w o ρ x y t' ho hx hy=>ex_icmp .leq _ _ _ (congrArg some c3) ho hx hy) ?_
             exact Run.rV (V' := .bool true) (congrArg Value.bool (by rw [lgD_2 c2 c3];rfl))
           · refine Run.bi (op:=.leq) (t:=3) (a:=.int .i64 ((q.b.s.size:Nat):Int)) (c:=.int .i64 1024) [] (cb false) (fun w o ρ x y t' ho hx hy=>ex_icmp .leq _ _ _ (congrArg some c3) ho hx hy) ?_
             refine Run.bi (op:=.add) (t:=3) (a:=.int .i64 i) (c:=.int .i64 1) [.int .i64 ((i+1:Nat):Int)] kb (fun w o ρ x y t' ho hx hy=>ex_iadd (wrap_63 (n:=(i:Int)+1) (by omega) (by omega)) ho hx hy) ?_
             refine Run.to far ?_
             exact Run.as (fun k=>k) id (R (lgD_3 (.inr c1) (.inr c3))) (hc:=by kernel_rfl) (hk:=by kernel_rfl)
         · refine Run.bi (op:=.gtr) (t:=3) (a:=.int .i64 ((q.b.s.size:Nat):Int)) (c:=.int .i64 60) [] (cb false) (fun w o ρ x y t' ho hx hy=>ex_icmp .gtr _ _ _ (congrArg some c2) ho hx hy) ?_
           refine Run.bi (op:=.add) (t:=3) (a:=.int .i64 i) (c:=.int .i64 1) [.int .i64 ((i+1:Nat):Int)] kb (fun w o ρ x y t' ho hx hy=>ex_iadd (wrap_63 (n:=(i:Int)+1) (by omega) (by omega)) ho hx hy) ?_
           refine Run.to far ?_
           exact Run.as (fun k=>k) id (R (lgD_3 (.inr c1) (.inl c2))) (hc:=by kernel_rfl) (hk:=by kernel_rfl)
     · refine Run.bi (op:=.gtr) (t:=3) (a:=.int .i64 ((q.a.s.size:Nat):Int)) (c:=.int .i64 60) [] (cb false) (fun w o ρ x y t' ho hx hy=>ex_icmp .gtr _ _ _ (congrArg some c0) ho hx hy) ?_
       refine Run.iaK p b off l.length c i 4 104 hpe hi ?_
       refine Run.faK b (off+4*i) (off+4*i+2) 1 25 ?_
       refine Run.faK b (off+4*i+2) (off+4*i+2+1) 1 23 ?_
       refine Run.ldK b (off+4*i+2+1) 1 9 TT fr [.string q.b.s] kb cur hBe fb rfl rfl ?_
       refine Run.sl q.b.s 9 Tryz.underlying9 ?_
       refine (Bool.eq_false_or_eq_true (decide (60<((q.b.s.size:Nat):Int)))).elim (fun c4=>?_) (fun c4=>?_)
       · refine Run.bi (op:=.gtr) (t:=3) (a:=.int .i64 ((q.b.s.size:Nat):Int)) (c:=.int .i64 60) [] (cb true) (fun w o ρ x y t' ho hx hy=>ex_icmp .gtr _ _ _ (congrArg some c4) ho hx hy) ?_
         refine Run.iaK p b off l.length c i 4 104 hpe hi ?_
         refine Run.faK b (off+4*i) (off+4*i+2) 1 25 ?_
         refine Run.faK b (off+4*i+2) (off+4*i+2+1) 1 23 ?_
         refine Run.ldK b (off+4*i+2+1) 1 9 TT fr [.string q.b.s] kb cur hBe fb rfl rfl ?_
         refine Run.sl q.b.s 9 Tryz.underlying9 ?_
         refine (Bool.eq_false_or_eq_true (decide (((q.b.s.size:Nat):Int)≤1024))).elim (fun c5=>?_) (fun c5=>?_)
         · refine Run.bi (op:=.leq) (t:=3) (a:=.int .i64 ((q.b.s.size:Nat):Int)) (c:=.int .i64 1024) [] (cb true) (fun w o ρ x y t' ho hx hy=>ex_icmp .leq _ _ _ (congrArg some c5) ho hx hy) ?_
           exact Run.rV (V' := .bool true) (congrArg Value.bool (by rw [lgD_2 c4 c5];rfl))
         · refine Run.bi (op:=.leq) (t:=3) (a:=.int .i64 ((q.b.s.size:Nat):Int)) (c:=.int .i64 1024) [] (cb false) (fun w o ρ x y t' ho hx hy=>ex_icmp .leq _ _ _ (congrArg some c5) ho hx hy) ?_
           refine Run.bi (op:=.add) (t:=3) (a:=.int .i64 i) (c:=.int .i64 1) [.int .i64 ((i+1:Nat):Int)] kb (fun w o ρ x y t' ho hx hy=>ex_iadd (wrap_63 (n:=(i:Int)+1) (by omega) (by omega)) ho hx hy) ?_
           refine Run.to far ?_
           exact Run.as (fun k=>k) id (R (lgD_3 (.inl c0) (.inr c5))) (hc:=by kernel_rfl) (hk:=by kernel_rfl)
       · refine Run.bi (op:=.gtr) (t:=3) (a:=.int .i64 ((q.b.s.size:Nat):Int)) (c:=.int .i64 60) [] (cb false) (fun w o ρ x y t' ho hx hy=>ex_icmp .gtr _ _ _ (congrArg some c4) ho hx hy) ?_
         refine Run.bi (op:=.add) (t:=3) (a:=.int .i64 i) (c:=.int .i64 1) [.int .i64 ((i+1:Nat):Int)] kb (fun w o ρ x y t' ho hx hy=>ex_iadd (wrap_63 (n:=(i:Int)+1) (by omega) (by omega)) ho hx hy) ?_
         refine Run.to far ?_
         exact Run.as (fun k=>k) id (R (lgD_3 (.inl c0) (.inl c4))) (hc:=by kernel_rfl) (hk:=by kernel_rfl)
   · obtain rfl:i=l.length:=by omega
     refine Run.ik .lss (l.length:Nat) (l.length:Nat) false (dF (by omega)) ?_
     exact Run.rV (congrArg Value.bool (by rw [← h3,List.drop_length];try rfl))
 · refine Run.to far ?_
   exact Run.as (fun k=>k) id (L (l.length+1) 0 ⟨by omega,by omega,rfl⟩) (hc:=by kernel_rfl) (hk:=by kernel_rfl)
abbrev q79:RF:=rf (Rat.divInt 7 9)
theorem row_pre{W:World}{b:Nat}{l:List RF}{s:RF}{T:TypeId}(h:∃ r:List Value,W.heap[b]? = some (.cells ⟨(frsC (l++[s])).toList++r⟩ T (0,0))):∃ r:List Value,W.heap[b]? = some (.cells ⟨(frsC l).toList++r⟩ T (0,0)):=by
 obtain⟨r,h⟩:=h
 refine⟨(rfC s).toList++r,?_⟩
 rw [h,← frsC_app,Array.toList_append,List.append_assoc]
theorem row_at{l:List RF}{s:RF}{j:Nat}(h:j<l.length):((frsC (l++[s])).toList.drop (4*j)).take 4=(rfC (l.getD j rz.re)).toList:=by
 rw [frsC_at (by simp;omega)]
 congr 2
 simp [List.getD_eq_getElem?_getD,List.getElem?_append_left h]
theorem row_end{l:List RF}{s:RF}:((frsC (l++[s])).toList.drop (4*l.length)).take 4=(rfC s).toList:=by
 rw [frsC_at (by simp)]
 congr 2
 simp [List.getD_eq_getElem?_getD]
theorem all_one(l:List RF):(frsC l).toList.all (·.oneCell')=true:=by
 rw [List.all_eq_true]
 intro v hv
 have hv:v ∈ l.flatMap fun r=>(rfC r).toList:=hv
 obtain⟨r,_,h⟩:=List.mem_flatMap.1 hv
 simp only [List.mem_cons,List.not_mem_nil,or_false] at h
 rcases h with rfl|rfl|rfl|rfl<;>rfl
theorem take_all{x:Bool}{l:List RF}{i:Nat}(hi:i<l.length){m:Bool}(hm:m=(x&&(l.take i).all fmay)):(m&&fmay (l.getD i rz.re))=(x&&(l.take (i+1)).all fmay):=by
 have:l[i]? = some (l.getD i rz.re):=by simp [List.getD_eq_getElem?_getD,hi]
 rw [List.take_add_one,this,hm,List.all_append]
 simp [Bool.and_assoc]
theorem fmayAt{l:List RF}(h:l.all fmay=true){i:Nat}(hi:i<l.length):fmay (l.getD i rz.re)=true:=by
 refine List.all_eq_true.1 h _ ?_
 simp [List.getD_eq_getElem?_getD,hi]
theorem drop_hd{A:List Int}{n:Nat}{i:Int}{r:List Int}(h:A.drop n=i::r):n<A.length∧((intsC A).toList.drop (1*n)).take 1=[.int .i64 i]∧A.drop (n+1)=r:=by
 have hn:n<A.length:=Decidable.byContradiction fun hh=>by rw [List.drop_of_length_le (by omega)] at h;cases h
 have e:=List.drop_eq_getElem_cons hn
 rw [h] at e
 obtain⟨e1,e2⟩:=List.cons.inj e
 refine⟨hn,?_,e2.symm⟩
 rw [intsC_at hn,e1]
 simp [List.getD_eq_getElem?_getD,hn]
theorem rfMetR(x:Rat)(q:RF)(h:fmay q=true)(p0:ht x≤8200):Calls Tryz.prog 60 #[fV x,rfV q] W (RetV (.bool (metB x (valM q))) W):=by
 have f:=fits_ht_le (valM_fits h)
 have:=rfMet (W:=W) x (valM q) (by omega)
 rw [show fV (valM q)=rfV q from congrArg rfV (valM_eq h).symm] at this
 exact this
theorem rfMetB(x:Rat)(q:RF)(h:fmay q=true)(p0:ht x≤8200){v:Bool}(hb:metB x (valM q)=v):Calls Tryz.prog 60 #[fV x,rfV q] W (RetV (.bool v) W):=by subst hb;exact rfMetR x q h p0
theorem FRow.up{W w:World}{l:List RF}{p:Option Addr}{b off:Nat}{cur:Array Value}{TT:TypeId}{fr:Nat×Nat}(R:FRow W l p b off cur TT fr)(h:Below W.heap.size W w):FRow w l p b off cur TT fr:=⟨R.hp,fun h0=>by rw [h.block b (lt_of (R.hB h0))];exact R.hB h0,R.hR⟩
theorem lFm1(x:RF)(l:List RF)(p:Option Addr)(c:Nat){b off:Nat}{cur:Array Value}{TT:TypeId}{fr:Nat×Nat}(R:FRow W l p b off cur TT fr)(p0:[x].any lgD=true):Calls Tryz.prog 7 #[rfV x,.slice p l.length c] W (RetV (.bool true) W):=by
 refine Run.goP (S:=Z0) ((Pack.nil.k (rfV x) (rfC x).toList (.s (.agg (ks 0 4)))).k (.slice p l.length c) [.slice p l.length c] kb) Tryz.func7 rfl ?_
 refine Run.cV [.bool ([x].any lgD)] kb (fun _ _ _ H=>l23long1 25 x (H.b 1)) ?_
 refine Run.kn p0 ?_
 refine Run.cV [] (cb true) (fun _ _ _ H=>l23works) ?_
 exact Run.rV rfl
theorem lFm2(x:RF)(l:List RF)(p:Option Addr)(c:Nat){b off:Nat}{cur:Array Value}{TT:TypeId}{fr:Nat×Nat}(R:FRow W l p b off cur TT fr)(hl:l.length≤9223372036854775807)(p0:[x].any lgD=false)(p1:l.any lgD=true):Calls Tryz.prog 7 #[rfV x,.slice p l.length c] W (RetV (.bool true) W):=by
 refine Run.goP (S:=Z0) ((Pack.nil.k (rfV x) (rfC x).toList (.s (.agg (ks 0 4)))).k (.slice p l.length c) [.slice p l.length c] kb) Tryz.func7 rfl ?_
 refine Run.cV [.bool ([x].any lgD)] kb (fun _ _ _ H=>l23long1 25 x (H.b 1)) ?_
 refine Run.kn p0 ?_
 refine Run.cV [.bool (l.any lgD)] kb (fun {A} β ℓ w H=>l23longK l p c (R.up H.bel) hl) ?_
 refine Run.kn p1 ?_
 refine Run.cV [] (cb true) (fun _ _ _ H=>l23works) ?_
 exact Run.rV rfl
theorem lFm3(x:RF)(l:List RF)(p:Option Addr)(c:Nat){b off:Nat}{cur:Array Value}{TT:TypeId}{fr:Nat×Nat}(R:FRow W l p b off cur TT fr)(hl:l.length≤9223372036854775807)(p0:[x].any lgD=false)(p1:l.any lgD=false)(p2:40<l.length):Calls Tryz.prog 7 #[rfV x,.slice p l.length c] W (RetV (.bool true) W):=by
 refine Run.goP (S:=Z0) ((Pack.nil.k (rfV x) (rfC x).toList (.s (.agg (ks 0 4)))).k (.slice p l.length c) [.slice p l.length c] kb) Tryz.func7 rfl ?_
 refine Run.cV [.bool ([x].any lgD)] kb (fun _ _ _ H=>l23long1 25 x (H.b 1)) ?_
 refine Run.kn p0 ?_
 refine Run.cV [.bool (l.any lgD)] kb (fun {A} β ℓ w H=>l23longK l p c (R.up H.bel) hl) ?_
 refine Run.kn p1 ?_
 refine Run.lnK p l.length c 104 ?_
 refine Run.ik .gtr (l.length:Nat) 40 true (dT (by omega)) ?_
 refine Run.cV [] (cb true) (fun _ _ _ H=>l23works) ?_
 exact Run.rV rfl
theorem met_c{w:World}{R:Option (List Int)}{A:List Int}{args:Array Value}(e:R=some A)(h0:0<A.length)(h:Calls Tryz.prog 59 args w (MetPost R w)):Calls Tryz.prog 59 args w (Eng.RetL 3 1 A.length (intsC A) (fun s=>.tuple #[s,.int .i64 0]) w):=by
 subst e
 cases A with
 | nil=>exact absurd h0 (by decide)
 | cons i l=>exact h
theorem lFmN(x:RF)(l:List RF)(p:Option Addr)(c:Nat){b off:Nat}{cur:Array Value}{TT:TypeId}{fr:Nat×Nat}(R:FRow W l p b off cur TT fr)(p0:[x].any lgD=false)(p1:l.any lgD=false)(p2:l.length≤40)(p3:fmay x=false):Calls Tryz.prog 7 #[rfV x,.slice p l.length c] W (RetV (.bool true) W):=by
 have hl:l.length≤9223372036854775807:=by omega
 refine Run.goP (S:=Z0) ((Pack.nil.k (rfV x) (rfC x).toList (.s (.agg (ks 0 4)))).k (.slice p l.length c) [.slice p l.length c] kb) Tryz.func7 rfl ?_
 refine Run.cV [.bool ([x].any lgD)] kb (fun _ _ _ H=>l23long1 25 x (H.b 1)) ?_
 refine Run.kn p0 ?_
 refine Run.cV [.bool (l.any lgD)] kb (fun {A} β ℓ w H=>l23longK l p c (R.up H.bel) hl) ?_
 refine Run.kn p1 ?_
 refine Run.lnK p l.length c 104 ?_
 refine Run.ik .gtr (l.length:Nat) 40 false (dF (by omega)) ?_
 refine Run.b0 104 25 ?_
 refine Run.ak 104 2 0 0 p l.length c b off #[] (frsC l) cur TT fr (frsC l).toList 4 (by omega) rfl R.hp R.hB R.hR (by rw [Array.length_toList,frsC_size]) (all_one l) (by simp) (fun c1=>?_)
 refine Run.cV (fC (Rat.divInt 7 9)).toList (.s (.agg (ks 0 4))) (fun _ _ _ H=>l23of 7 9 (by decide) (by decide) (by decide) (by decide) (by decide)) ?_
 refine Run.al 104 2 (0+l.length) c1 3 (frsC l) (frsC (l++[q79])) (rfC q79).toList 4 (by omega) (by rw [frsC_size];omega) (frsC_app l q79) (fun c2=>?_)
 refine Run.lnK p l.length c 104 ?_
 refine Run.hs 2 (0+l.length+1) (c2+(0+l.length+1)) l.length 104 (by omega) ?_
 refine Run.cV [] (.tup [.o (.c (.slice none 0 0)),.o (.c (.int .i64 2))]) (fun _ _ _ H=>foMetN 25 x l (c2+(0+l.length+1)) (row_pre (s:=q79) (H.bL 2)) p3) ?_
 refine Run.cV [.bool (fmay x)] kb (fun _ _ _ H=>fMay x) ?_
 refine Run.tl (l.length+1) ?_
 refine Run.lpX (ι:=Nat×Bool) [(1,.s (.o (.k 4))),(2,.s (.o (.p 0 0))),(5,.s (.o (.ls 1 l.length (c2+(0+l.length+1))))),(6,constSV (.slice none 0 0)),(7,constSV (.int .i64 2)),(8,.s (.o (.k 5))),(9,.s (.o (.k 6))),(42,.s (.o (.k 6))),(43,.s (.o (.k 4)))]
   [⟨25,ks 0 4,true,none,false⟩,⟨25,[mkL ((c2+(0+l.length+1))*4) (frsC (l++[q79]))],true,none,false⟩] 7 0
   (fun x_=>(rfC x).toList++[.slice p l.length c,.bool x_.2,.int .i64 (x_.1:Nat)]) (fun _=>[])
   (fun r x_=>x_.1+r=l.length+1∧x_.1≤l.length∧x_.2=(fmay x&&(l.take x_.1).all fmay)) ?_ (fun L=>?_)
 · rintro r ⟨i,m⟩ ⟨h1,h2,h3⟩ IH
   replace h1:i+r=l.length+1:=h1;replace h2:i≤l.length:=h2;replace h3:m=(fmay x&&(l.take i).all fmay):=h3
   refine Run.lnK p l.length c 104 ?_
   by_cases hi:i<l.length
   · obtain⟨r', rfl⟩:∃ r', r=r'+1:=⟨r-1,by omega⟩
     refine Run.ik .lss i (l.length:Nat) true (dT (by omega)) ?_
     have ta:=take_all hi h3
     have IH:=IH r' (i+1,m&&fmay (l.getD i rz.re)) rfl ⟨by show i+1+r'=_;omega,hi,ta⟩
     have fa:=R.at hi
     have fb:=row_at (s:=q79) hi
     have hpe:=R.pe hi
     have hBe:=R.Be hi
     generalize l.getD i rz.re=q at *
     cases m with
     | false =>
       refine Run.kn (b:=false) (c:=false) rfl ?_
       simp only [Bool.false_and] at IH
       refine Run.dq ?_
       refine RunQ.ia 1 l.length (c2+(0+l.length+1)) i 4 104 hi ?_
       refine RunQ.lh 1 (4*i) 4 25 (rfC q).toList (.s (.agg (ks 0 4))) (frsC (l++[q79])) fb ?_
       refine RunQ.iaK p b off l.length c i 4 104 hpe hi ?_
       refine RunQ.ldK b (off+4*i) 4 25 TT fr (rfC q).toList (.s (.agg (ks 0 4))) cur hBe fa rfl rfl ?_
       refine RunQ.bi (op:=.neq) (t:=25) (a:=rfV q) (c:=rfV q) [] (cb false) (fun w o ρ x y t' ho hx hy=>ex_neq_frac (r:=q) (q:=q) x y ho hx hy (c:=true) (decide_eq_true rfl)) ?_
       refine RunQ.en ?_
       refine Run.bi (op:=.add) (t:=3) (a:=.int .i64 i) (c:=.int .i64 1) [.int .i64 ((i+1:Nat):Int)] kb (fun w o ρ x y t' ho hx hy=>ex_iadd (wrap_62 (n:=(i:Int)+1) (by omega) (by omega)) ho hx hy) ?_
       refine Run.to far ?_
       exact Run.as (fun k=>k) id IH (hc:=by kernel_rfl) (hk:=by kernel_rfl)
     | true =>
       refine Run.kn (b:=true) (c:=true) rfl ?_
       simp only [Bool.true_and] at IH
       refine Run.iaK p b off l.length c i 4 104 hpe hi ?_
       refine Run.ldK b (off+4*i) 4 25 TT fr (rfC q).toList (.s (.agg (ks 0 4))) cur hBe fa rfl rfl ?_
       refine Run.cV [.bool (fmay q)] kb (fun _ _ _ H=>fMay q) ?_
       refine Run.dq ?_
       refine RunQ.ia 1 l.length (c2+(0+l.length+1)) i 4 104 hi ?_
       refine RunQ.lh 1 (4*i) 4 25 (rfC q).toList (.s (.agg (ks 0 4))) (frsC (l++[q79])) fb ?_
       refine RunQ.iaK p b off l.length c i 4 104 hpe hi ?_
       refine RunQ.ldK b (off+4*i) 4 25 TT fr (rfC q).toList (.s (.agg (ks 0 4))) cur hBe fa rfl rfl ?_
       refine RunQ.bi (op:=.neq) (t:=25) (a:=rfV q) (c:=rfV q) [] (cb false) (fun w o ρ x y t' ho hx hy=>ex_neq_frac (r:=q) (q:=q) x y ho hx hy (c:=true) (decide_eq_true rfl)) ?_
       refine RunQ.en ?_
       refine Run.bi (op:=.add) (t:=3) (a:=.int .i64 i) (c:=.int .i64 1) [.int .i64 ((i+1:Nat):Int)] kb (fun w o ρ x y t' ho hx hy=>ex_iadd (wrap_62 (n:=(i:Int)+1) (by omega) (by omega)) ho hx hy) ?_
       refine Run.to far ?_
       exact Run.as (fun k=>k) id IH (hc:=by kernel_rfl) (hk:=by kernel_rfl)
   · obtain rfl:i=l.length:=by omega
     refine Run.ik .lss (l.length:Nat) (l.length:Nat) false (dF (by omega)) ?_
     obtain rfl:m=false:=by rw [h3,p3];rfl
     clear IH h3
     refine Run.dq ?_
     refine RunQ.lnK p l.length c 104 ?_
     refine RunQ.bi (op:=.add) (t:=3) (a:=.int .i64 (l.length:Nat)) (c:=.int .i64 1) [.int .i64 ((l.length+1:Nat):Int)] kb (fun w o ρ x y t' ho hx hy=>ex_iadd (wrap_62 (n:=(l.length:Int)+1) (by omega) (by omega)) ho hx hy) ?_
     refine RunQ.hs 1 l.length (c2+(0+l.length+1)) (l.length+1) 104 (by omega) ?_
     refine RunQ.lnK p l.length c 104 ?_
     refine RunQ.ia 1 (l.length+1) (c2+(0+l.length+1)) l.length 4 104 (by omega) ?_
     refine RunQ.lh 1 (4*l.length) 4 25 (rfC q79).toList (.s (.agg (ks 0 4))) (frsC (l++[q79])) row_end ?_
     refine RunQ.cV (fC (Rat.divInt 7 9)).toList (.s (.agg (ks 0 4))) (fun _ _ _ H=>l23of 7 9 (by decide) (by decide) (by decide) (by decide) (by decide)) ?_
     refine RunQ.bi (op:=.neq) (t:=25) (a:=rfV q79) (c:=rfV q79) [] (cb false) (fun w o ρ x y t' ho hx hy=>ex_neq_frac (r:=q79) (q:=q79) x y ho hx hy (c:=true) (decide_eq_true rfl)) ?_
     refine RunQ.en ?_
     refine Run.kn (b:=false) (c:=false) rfl ?_
     refine Run.lz 31 ?_
     refine Run.cV [] (.s (.o (.c (.int .i64 2)))) (fun _ _ _ H=>l23num 2) ?_
     refine Run.cV [] (cb true) (fun _ _ _ H=>l23works) ?_
     exact Run.rV rfl
 · refine Run.to far ?_
   exact Run.as (fun k=>k) (fun k=>if k=1 then 2 else if k=2 then 4 else k) (L (l.length+1) (0,fmay x) ⟨by show 0+(l.length+1)=_;omega,by show 0≤_;omega,by show fmay x=(fmay x&&(l.take 0).all fmay);simp⟩) (hc:=by kernel_rfl) (hk:=by kernel_rfl)
theorem lFmF(x:Rat)(l:List RF)(p:Option Addr)(c:Nat){b off:Nat}{cur:Array Value}{TT:TypeId}{fr:Nat×Nat}(R:FRow W l p b off cur TT fr)(p0:[(rf x)].any lgD=false)(p1:l.any lgD=false)(p2:l.length≤40)(p3:fits (rf x)=true)(p4:l.all fmay=false):Calls Tryz.prog 7 #[rfV (rf x),.slice p l.length c] W (RetV (.bool true) W):=by
 have hl:l.length≤9223372036854775807:=by omega
 have f0:=fits_ht_le p3
 have e:metF x 0 l []=none:=by rw [metF_eq,if_neg (by rw [p4];decide)]
 refine Run.goP (S:=Z0) ((Pack.nil.k (rfV (rf x)) (rfC (rf x)).toList (.s (.agg (ks 0 4)))).k (.slice p l.length c) [.slice p l.length c] kb) Tryz.func7 rfl ?_
 refine Run.cV [.bool ([(rf x)].any lgD)] kb (fun _ _ _ H=>l23long1 25 (rf x) (H.b 1)) ?_
 refine Run.kn p0 ?_
 refine Run.cV [.bool (l.any lgD)] kb (fun {A} β ℓ w H=>l23longK l p c (R.up H.bel) hl) ?_
 refine Run.kn p1 ?_
 refine Run.lnK p l.length c 104 ?_
 refine Run.ik .gtr (l.length:Nat) 40 false (dF (by omega)) ?_
 refine Run.b0 104 25 ?_
 refine Run.ak 104 2 0 0 p l.length c b off #[] (frsC l) cur TT fr (frsC l).toList 4 (by omega) rfl R.hp R.hB R.hR (by rw [Array.length_toList,frsC_size]) (all_one l) (by simp) (fun c1=>?_)
 refine Run.cV (fC (Rat.divInt 7 9)).toList (.s (.agg (ks 0 4))) (fun _ _ _ H=>l23of 7 9 (by decide) (by decide) (by decide) (by decide) (by decide)) ?_
 refine Run.al 104 2 (0+l.length) c1 3 (frsC l) (frsC (l++[q79])) (rfC q79).toList 4 (by omega) (by rw [frsC_size];omega) (frsC_app l q79) (fun c2=>?_)
 refine Run.lnK p l.length c 104 ?_
 refine Run.hs 2 (0+l.length+1) (c2+(0+l.length+1)) l.length 104 (by omega) ?_
 refine Run.cV [] (.tup [.o (.c (.slice none 0 0)),.o (.c (.int .i64 2))]) (fun _ _ _ H=>by have h:=foMetY 25 x l (c2+(0+l.length+1)) (row_pre (s:=q79) (H.bL 2)) p3 (by omega);rw [e] at h;exact h) ?_
 refine Run.cV [.bool (fmay (rf x))] kb (fun _ _ _ H=>fMay (rf x)) ?_
 refine Run.tl (l.length+1) ?_
 refine Run.lpX (ι:=Nat×Bool) [(1,.s (.o (.k 4))),(2,.s (.o (.p 0 0))),(5,.s (.o (.ls 1 l.length (c2+(0+l.length+1))))),(6,constSV (.slice none 0 0)),(7,constSV (.int .i64 2)),(8,.s (.o (.k 5))),(9,.s (.o (.k 6))),(42,.s (.o (.k 6))),(43,.s (.o (.k 4)))]
   [⟨25,ks 0 4,true,none,false⟩,⟨25,[mkL ((c2+(0+l.length+1))*4) (frsC (l++[q79]))],true,none,false⟩] 7 0
   (fun x_=>(rfC (rf x)).toList++[.slice p l.length c,.bool x_.2,.int .i64 (x_.1:Nat)]) (fun _=>[])
   (fun r x_=>x_.1+r=l.length+1∧x_.1≤l.length∧x_.2=(fmay (rf x)&&(l.take x_.1).all fmay)) ?_ (fun L=>?_)
 · rintro r ⟨i,m⟩ ⟨h1,h2,h3⟩ IH
   replace h1:i+r=l.length+1:=h1;replace h2:i≤l.length:=h2;replace h3:m=(fmay (rf x)&&(l.take i).all fmay):=h3
   refine Run.lnK p l.length c 104 ?_
   by_cases hi:i<l.length
   · obtain⟨r', rfl⟩:∃ r', r=r'+1:=⟨r-1,by omega⟩
     refine Run.ik .lss i (l.length:Nat) true (dT (by omega)) ?_
     have ta:=take_all hi h3
     have IH:=IH r' (i+1,m&&fmay (l.getD i rz.re)) rfl ⟨by show i+1+r'=_;omega,hi,ta⟩
     have fa:=R.at hi
     have fb:=row_at (s:=q79) hi
     have hpe:=R.pe hi
     have hBe:=R.Be hi
     generalize l.getD i rz.re=q at *
     cases m with
     | false =>
       refine Run.kn (b:=false) (c:=false) rfl ?_
       simp only [Bool.false_and] at IH
       refine Run.dq ?_
       refine RunQ.ia 1 l.length (c2+(0+l.length+1)) i 4 104 hi ?_
       refine RunQ.lh 1 (4*i) 4 25 (rfC q).toList (.s (.agg (ks 0 4))) (frsC (l++[q79])) fb ?_
       refine RunQ.iaK p b off l.length c i 4 104 hpe hi ?_
       refine RunQ.ldK b (off+4*i) 4 25 TT fr (rfC q).toList (.s (.agg (ks 0 4))) cur hBe fa rfl rfl ?_
       refine RunQ.bi (op:=.neq) (t:=25) (a:=rfV q) (c:=rfV q) [] (cb false) (fun w o ρ x y t' ho hx hy=>ex_neq_frac (r:=q) (q:=q) x y ho hx hy (c:=true) (decide_eq_true rfl)) ?_
       refine RunQ.en ?_
       refine Run.bi (op:=.add) (t:=3) (a:=.int .i64 i) (c:=.int .i64 1) [.int .i64 ((i+1:Nat):Int)] kb (fun w o ρ x y t' ho hx hy=>ex_iadd (wrap_62 (n:=(i:Int)+1) (by omega) (by omega)) ho hx hy) ?_
       refine Run.to far ?_
       exact Run.as (fun k=>k) id IH (hc:=by kernel_rfl) (hk:=by kernel_rfl)
     | true =>
       refine Run.kn (b:=true) (c:=true) rfl ?_
       simp only [Bool.true_and] at IH
       refine Run.iaK p b off l.length c i 4 104 hpe hi ?_
       refine Run.ldK b (off+4*i) 4 25 TT fr (rfC q).toList (.s (.agg (ks 0 4))) cur hBe fa rfl rfl ?_
       refine Run.cV [.bool (fmay q)] kb (fun _ _ _ H=>fMay q) ?_
       refine Run.dq ?_
       refine RunQ.ia 1 l.length (c2+(0+l.length+1)) i 4 104 hi ?_
       refine RunQ.lh 1 (4*i) 4 25 (rfC q).toList (.s (.agg (ks 0 4))) (frsC (l++[q79])) fb ?_
       refine RunQ.iaK p b off l.length c i 4 104 hpe hi ?_
       refine RunQ.ldK b (off+4*i) 4 25 TT fr (rfC q).toList (.s (.agg (ks 0 4))) cur hBe fa rfl rfl ?_
       refine RunQ.bi (op:=.neq) (t:=25) (a:=rfV q) (c:=rfV q) [] (cb false) (fun w o ρ x y t' ho hx hy=>ex_neq_frac (r:=q) (q:=q) x y ho hx hy (c:=true) (decide_eq_true rfl)) ?_
       refine RunQ.en ?_
       refine Run.bi (op:=.add) (t:=3) (a:=.int .i64 i) (c:=.int .i64 1) [.int .i64 ((i+1:Nat):Int)] kb (fun w o ρ x y t' ho hx hy=>ex_iadd (wrap_62 (n:=(i:Int)+1) (by omega) (by omega)) ho hx hy) ?_
       refine Run.to far ?_
       exact Run.as (fun k=>k) id IH (hc:=by kernel_rfl) (hk:=by kernel_rfl)
   · obtain rfl:i=l.length:=by omega
     refine Run.ik .lss (l.length:Nat) (l.length:Nat) false (dF (by omega)) ?_
     obtain rfl:m=false:=by rw [h3,List.take_length,p4,Bool.and_false]
     clear IH h3
     refine Run.dq ?_
     refine RunQ.lnK p l.length c 104 ?_
     refine RunQ.bi (op:=.add) (t:=3) (a:=.int .i64 (l.length:Nat)) (c:=.int .i64 1) [.int .i64 ((l.length+1:Nat):Int)] kb (fun w o ρ x y t' ho hx hy=>ex_iadd (wrap_62 (n:=(l.length:Int)+1) (by omega) (by omega)) ho hx hy) ?_
     refine RunQ.hs 1 l.length (c2+(0+l.length+1)) (l.length+1) 104 (by omega) ?_
     refine RunQ.lnK p l.length c 104 ?_
     refine RunQ.ia 1 (l.length+1) (c2+(0+l.length+1)) l.length 4 104 (by omega) ?_
     refine RunQ.lh 1 (4*l.length) 4 25 (rfC q79).toList (.s (.agg (ks 0 4))) (frsC (l++[q79])) row_end ?_
     refine RunQ.cV (fC (Rat.divInt 7 9)).toList (.s (.agg (ks 0 4))) (fun _ _ _ H=>l23of 7 9 (by decide) (by decide) (by decide) (by decide) (by decide)) ?_
     refine RunQ.bi (op:=.neq) (t:=25) (a:=rfV q79) (c:=rfV q79) [] (cb false) (fun w o ρ x y t' ho hx hy=>ex_neq_frac (r:=q79) (q:=q79) x y ho hx hy (c:=true) (decide_eq_true rfl)) ?_
     refine RunQ.en ?_
     refine Run.kn (b:=false) (c:=false) rfl ?_
     refine Run.lz 31 ?_
     refine Run.cV [] (.s (.o (.c (.int .i64 2)))) (fun _ _ _ H=>l23num 2) ?_
     refine Run.cV [] (cb true) (fun _ _ _ H=>l23works) ?_
     exact Run.rV rfl
 · refine Run.to far ?_
   exact Run.as (fun k=>k) (fun k=>if k=1 then 2 else if k=2 then 4 else k) (L (l.length+1) (0,fmay (rf x)) ⟨by show 0+(l.length+1)=_;omega,by show 0≤_;omega,by show fmay (rf x)=(fmay (rf x)&&(l.take 0).all fmay);simp⟩) (hc:=by kernel_rfl) (hk:=by kernel_rfl)
theorem lFmB(x:Rat)(l:List RF)(p:Option Addr)(c:Nat){b off:Nat}{cur:Array Value}{TT:TypeId}{fr:Nat×Nat}(R:FRow W l p b off cur TT fr)(p0:[(rf x)].any lgD=false)(p1:l.any lgD=false)(p2:l.length≤40)(p3:fits (rf x)=true)(p4:l.all fmay=true)(p5:metL x 0 l=[]):Calls Tryz.prog 7 #[rfV (rf x),.slice p l.length c] W (RetV (.bool true) W):=by
 have hl:l.length≤9223372036854775807:=by omega
 have f0:=fits_ht_le p3
 have e:metF x 0 l []=some []:=by rw [metF_eq,if_pos p4,p5];rfl
 refine Run.goP (S:=Z0) ((Pack.nil.k (rfV (rf x)) (rfC (rf x)).toList (.s (.agg (ks 0 4)))).k (.slice p l.length c) [.slice p l.length c] kb) Tryz.func7 rfl ?_
 refine Run.cV [.bool ([(rf x)].any lgD)] kb (fun _ _ _ H=>l23long1 25 (rf x) (H.b 1)) ?_
 refine Run.kn p0 ?_
 refine Run.cV [.bool (l.any lgD)] kb (fun {A} β ℓ w H=>l23longK l p c (R.up H.bel) hl) ?_
 refine Run.kn p1 ?_
 refine Run.lnK p l.length c 104 ?_
 refine Run.ik .gtr (l.length:Nat) 40 false (dF (by omega)) ?_
 refine Run.b0 104 25 ?_
 refine Run.ak 104 2 0 0 p l.length c b off #[] (frsC l) cur TT fr (frsC l).toList 4 (by omega) rfl R.hp R.hB R.hR (by rw [Array.length_toList,frsC_size]) (all_one l) (by simp) (fun c1=>?_)
 refine Run.cV (fC (Rat.divInt 7 9)).toList (.s (.agg (ks 0 4))) (fun _ _ _ H=>l23of 7 9 (by decide) (by decide) (by decide) (by decide) (by decide)) ?_
 refine Run.al 104 2 (0+l.length) c1 3 (frsC l) (frsC (l++[q79])) (rfC q79).toList 4 (by omega) (by rw [frsC_size];omega) (frsC_app l q79) (fun c2=>?_)
 refine Run.lnK p l.length c 104 ?_
 refine Run.hs 2 (0+l.length+1) (c2+(0+l.length+1)) l.length 104 (by omega) ?_
 refine Run.cV [] (.tup [.o (.c (.slice none 0 0)),.o (.c (.int .i64 0))]) (fun _ _ _ H=>by have h:=foMetY 25 x l (c2+(0+l.length+1)) (row_pre (s:=q79) (H.bL 2)) p3 (by omega);rw [e] at h;exact h) ?_
 refine Run.cV [.bool (fmay (rf x))] kb (fun _ _ _ H=>fMay (rf x)) ?_
 refine Run.tl (l.length+1) ?_
 refine Run.lpX (ι:=Nat×Bool) [(1,.s (.o (.k 4))),(2,.s (.o (.p 0 0))),(5,.s (.o (.ls 1 l.length (c2+(0+l.length+1))))),(6,constSV (.slice none 0 0)),(7,constSV (.int .i64 0)),(8,.s (.o (.k 5))),(9,.s (.o (.k 6))),(42,.s (.o (.k 6))),(43,.s (.o (.k 4)))]
   [⟨25,ks 0 4,true,none,false⟩,⟨25,[mkL ((c2+(0+l.length+1))*4) (frsC (l++[q79]))],true,none,false⟩] 7 0
   (fun x_=>(rfC (rf x)).toList++[.slice p l.length c,.bool x_.2,.int .i64 (x_.1:Nat)]) (fun _=>[])
   (fun r x_=>x_.1+r=l.length+1∧x_.1≤l.length∧x_.2=(fmay (rf x)&&(l.take x_.1).all fmay)) ?_ (fun L=>?_)
 · rintro r ⟨i,m⟩ ⟨h1,h2,h3⟩ IH
   replace h1:i+r=l.length+1:=h1;replace h2:i≤l.length:=h2;replace h3:m=(fmay (rf x)&&(l.take i).all fmay):=h3
   refine Run.lnK p l.length c 104 ?_
   by_cases hi:i<l.length
   · obtain⟨r', rfl⟩:∃ r', r=r'+1:=⟨r-1,by omega⟩
     refine Run.ik .lss i (l.length:Nat) true (dT (by omega)) ?_
     have ta:=take_all hi h3
     have IH:=IH r' (i+1,m&&fmay (l.getD i rz.re)) rfl ⟨by show i+1+r'=_;omega,hi,ta⟩
     have fa:=R.at hi
     have fb:=row_at (s:=q79) hi
     have hpe:=R.pe hi
     have hBe:=R.Be hi
     generalize l.getD i rz.re=q at *
     cases m with
     | false =>
       refine Run.kn (b:=false) (c:=false) rfl ?_
       simp only [Bool.false_and] at IH
       refine Run.dq ?_
       refine RunQ.ia 1 l.length (c2+(0+l.length+1)) i 4 104 hi ?_
       refine RunQ.lh 1 (4*i) 4 25 (rfC q).toList (.s (.agg (ks 0 4))) (frsC (l++[q79])) fb ?_
       refine RunQ.iaK p b off l.length c i 4 104 hpe hi ?_
       refine RunQ.ldK b (off+4*i) 4 25 TT fr (rfC q).toList (.s (.agg (ks 0 4))) cur hBe fa rfl rfl ?_
       refine RunQ.bi (op:=.neq) (t:=25) (a:=rfV q) (c:=rfV q) [] (cb false) (fun w o ρ x y t' ho hx hy=>ex_neq_frac (r:=q) (q:=q) x y ho hx hy (c:=true) (decide_eq_true rfl)) ?_
       refine RunQ.en ?_
       refine Run.bi (op:=.add) (t:=3) (a:=.int .i64 i) (c:=.int .i64 1) [.int .i64 ((i+1:Nat):Int)] kb (fun w o ρ x y t' ho hx hy=>ex_iadd (wrap_62 (n:=(i:Int)+1) (by omega) (by omega)) ho hx hy) ?_
       refine Run.to far ?_
       exact Run.as (fun k=>k) id IH (hc:=by kernel_rfl) (hk:=by kernel_rfl)
     | true =>
       refine Run.kn (b:=true) (c:=true) rfl ?_
       simp only [Bool.true_and] at IH
       refine Run.iaK p b off l.length c i 4 104 hpe hi ?_
       refine Run.ldK b (off+4*i) 4 25 TT fr (rfC q).toList (.s (.agg (ks 0 4))) cur hBe fa rfl rfl ?_
       refine Run.cV [.bool (fmay q)] kb (fun _ _ _ H=>fMay q) ?_
       refine Run.dq ?_
       refine RunQ.ia 1 l.length (c2+(0+l.length+1)) i 4 104 hi ?_
       refine RunQ.lh 1 (4*i) 4 25 (rfC q).toList (.s (.agg (ks 0 4))) (frsC (l++[q79])) fb ?_
       refine RunQ.iaK p b off l.length c i 4 104 hpe hi ?_
       refine RunQ.ldK b (off+4*i) 4 25 TT fr (rfC q).toList (.s (.agg (ks 0 4))) cur hBe fa rfl rfl ?_
       refine RunQ.bi (op:=.neq) (t:=25) (a:=rfV q) (c:=rfV q) [] (cb false) (fun w o ρ x y t' ho hx hy=>ex_neq_frac (r:=q) (q:=q) x y ho hx hy (c:=true) (decide_eq_true rfl)) ?_
       refine RunQ.en ?_
       refine Run.bi (op:=.add) (t:=3) (a:=.int .i64 i) (c:=.int .i64 1) [.int .i64 ((i+1:Nat):Int)] kb (fun w o ρ x y t' ho hx hy=>ex_iadd (wrap_62 (n:=(i:Int)+1) (by omega) (by omega)) ho hx hy) ?_
       refine Run.to far ?_
       exact Run.as (fun k=>k) id IH (hc:=by kernel_rfl) (hk:=by kernel_rfl)
   · obtain rfl:i=l.length:=by omega
     refine Run.ik .lss (l.length:Nat) (l.length:Nat) false (dF (by omega)) ?_
     obtain rfl:m=true:=by rw [h3,List.take_length,p4,fmay_yes p3];rfl
     clear IH h3
     refine Run.dq ?_
     refine RunQ.lnK p l.length c 104 ?_
     refine RunQ.bi (op:=.add) (t:=3) (a:=.int .i64 (l.length:Nat)) (c:=.int .i64 1) [.int .i64 ((l.length+1:Nat):Int)] kb (fun w o ρ x y t' ho hx hy=>ex_iadd (wrap_62 (n:=(l.length:Int)+1) (by omega) (by omega)) ho hx hy) ?_
     refine RunQ.hs 1 l.length (c2+(0+l.length+1)) (l.length+1) 104 (by omega) ?_
     refine RunQ.lnK p l.length c 104 ?_
     refine RunQ.ia 1 (l.length+1) (c2+(0+l.length+1)) l.length 4 104 (by omega) ?_
     refine RunQ.lh 1 (4*l.length) 4 25 (rfC q79).toList (.s (.agg (ks 0 4))) (frsC (l++[q79])) row_end ?_
     refine RunQ.cV (fC (Rat.divInt 7 9)).toList (.s (.agg (ks 0 4))) (fun _ _ _ H=>l23of 7 9 (by decide) (by decide) (by decide) (by decide) (by decide)) ?_
     refine RunQ.bi (op:=.neq) (t:=25) (a:=rfV q79) (c:=rfV q79) [] (cb false) (fun w o ρ x y t' ho hx hy=>ex_neq_frac (r:=q79) (q:=q79) x y ho hx hy (c:=true) (decide_eq_true rfl)) ?_
     refine RunQ.en ?_
     refine Run.kn (b:=true) (c:=true) rfl ?_
     refine Run.tl (l.length+1) ?_
     refine Run.lpX (ι:=Nat) [(1,.s (.o (.k 4))),(2,.s (.o (.p 0 0))),(6,constSV (.slice none 0 0)),(7,constSV (.int .i64 0)),(10,constSV (.int .i64 0)),(11,.s (.o (.k 5))),(89,.s (.o (.k 5))),(90,.s (.o (.k 4)))]
       [⟨25,ks 0 4,true,none,false⟩] 6 0
       (fun i=>(rfC (rf x)).toList++[.slice p l.length c,.int .i64 (i:Nat)]) (fun _=>[])
       (fun r i=>i+r=l.length+1∧i≤l.length∧metL x i (l.drop i)=[]) ?_ (fun L=>?_)
     · rintro r i ⟨h1,h2,h3⟩ IH
       refine Run.lnK p l.length c 104 ?_
       by_cases hi:i<l.length
       · obtain⟨r', rfl⟩:∃ r', r=r'+1:=⟨r-1,by omega⟩
         refine Run.ik .lss i (l.length:Nat) true (dT (by omega)) ?_
         have hm:=fmayAt p4 hi
         have fa:=R.at hi
         have hpe:=R.pe hi
         have hBe:=R.Be hi
         have hb:metB x (valM (l.getD i rz.re))=false:=by
           cases hb:metB x (valM (l.getD i rz.re)) with
           | false=>rfl
           | true=>rw [metL_t hi hb] at h3;cases h3
         have IH:=IH r' (i+1) rfl ⟨by omega,hi,by rw [← metL_f hi hb];exact h3⟩
         clear h3
         generalize l.getD i rz.re=q at *
         refine Run.dq ?_
         refine RunQ.iaK p b off l.length c i 4 104 hpe hi ?_
         refine RunQ.ldK b (off+4*i) 4 25 TT fr (rfC q).toList (.s (.agg (ks 0 4))) cur hBe fa rfl rfl ?_
         refine RunQ.cV [] (cb false) (fun _ _ _ H=>rfMetB x q hm f0 hb) ?_
         refine RunQ.en ?_
         refine Run.bi (op:=.add) (t:=3) (a:=.int .i64 i) (c:=.int .i64 1) [.int .i64 ((i+1:Nat):Int)] kb (fun w o ρ x y t' ho hx hy=>ex_iadd (wrap_62 (n:=(i:Int)+1) (by omega) (by omega)) ho hx hy) ?_
         refine Run.to far ?_
         exact Run.as (fun k=>k) id IH (hc:=by kernel_rfl) (hk:=by kernel_rfl)
       · obtain rfl:i=l.length:=by omega
         refine Run.ik .lss (l.length:Nat) (l.length:Nat) false (dF (by omega)) ?_
         refine Run.lz 31 ?_
         refine Run.cV [] (.s (.o (.c (.int .i64 0)))) (fun _ _ _ H=>l23num 0) ?_
         refine Run.cV [] (cb true) (fun _ _ _ H=>l23works) ?_
         exact Run.rV rfl
     · refine Run.to far ?_
       exact Run.as (fun k=>k) id (L (l.length+1) 0 ⟨by omega,by omega,p5⟩) (hc:=by kernel_rfl) (hk:=by kernel_rfl)
 · refine Run.to far ?_
   exact Run.as (fun k=>k) (fun k=>if k=1 then 2 else if k=2 then 4 else k) (L (l.length+1) (0,fmay (rf x)) ⟨by show 0+(l.length+1)=_;omega,by show 0≤_;omega,by show fmay (rf x)=(fmay (rf x)&&(l.take 0).all fmay);simp⟩) (hc:=by kernel_rfl) (hk:=by kernel_rfl)
theorem lFmC(x:Rat)(l:List RF)(p:Option Addr)(c:Nat){b off:Nat}{cur:Array Value}{TT:TypeId}{fr:Nat×Nat}(R:FRow W l p b off cur TT fr)(p0:[(rf x)].any lgD=false)(p1:l.any lgD=false)(p2:l.length≤40)(p3:fits (rf x)=true)(p4:l.all fmay=true)(A:List Int)(p5:metL x 0 l=A)(hA:0<A.length)(hA2:A.length≤40):Calls Tryz.prog 7 #[rfV (rf x),.slice p l.length c] W (RetV (.bool true) W):=by
 have hl:l.length≤9223372036854775807:=by omega
 have f0:=fits_ht_le p3
 have e:metF x 0 l []=some A:=by rw [metF_eq,if_pos p4,p5];rfl
 refine Run.goP (S:=Z0) ((Pack.nil.k (rfV (rf x)) (rfC (rf x)).toList (.s (.agg (ks 0 4)))).k (.slice p l.length c) [.slice p l.length c] kb) Tryz.func7 rfl ?_
 refine Run.cV [.bool ([(rf x)].any lgD)] kb (fun _ _ _ H=>l23long1 25 (rf x) (H.b 1)) ?_
 refine Run.kn p0 ?_
 refine Run.cV [.bool (l.any lgD)] kb (fun {A} β ℓ w H=>l23longK l p c (R.up H.bel) hl) ?_
 refine Run.kn p1 ?_
 refine Run.lnK p l.length c 104 ?_
 refine Run.ik .gtr (l.length:Nat) 40 false (dF (by omega)) ?_
 refine Run.b0 104 25 ?_
 refine Run.ak 104 2 0 0 p l.length c b off #[] (frsC l) cur TT fr (frsC l).toList 4 (by omega) rfl R.hp R.hB R.hR (by rw [Array.length_toList,frsC_size]) (all_one l) (by simp) (fun c1=>?_)
 refine Run.cV (fC (Rat.divInt 7 9)).toList (.s (.agg (ks 0 4))) (fun _ _ _ H=>l23of 7 9 (by decide) (by decide) (by decide) (by decide) (by decide)) ?_
 refine Run.al 104 2 (0+l.length) c1 3 (frsC l) (frsC (l++[q79])) (rfC q79).toList 4 (by omega) (by rw [frsC_size];omega) (frsC_app l q79) (fun c2=>?_)
 refine Run.lnK p l.length c 104 ?_
 refine Run.hs 2 (0+l.length+1) (c2+(0+l.length+1)) l.length 104 (by omega) ?_
 refine Run.cL [] (fun a=>.tup [.o a,.o (.c (.int .i64 0))]) (fun _ _ _ H=>met_c e hA (foMetY 25 x l (c2+(0+l.length+1)) (row_pre (s:=q79) (H.bL 2)) p3 (by omega))) (fun ca=>?_)
 refine Run.cV [.bool (fmay (rf x))] kb (fun _ _ _ H=>fMay (rf x)) ?_
 refine Run.tl (l.length+1) ?_
 refine Run.lpX (ι:=Nat×Bool) [(1,.s (.o (.k 4))),(2,.s (.o (.p 0 0))),(5,.s (.o (.ls 1 l.length (c2+(0+l.length+1))))),(6,.s (.o (.ls 2 A.length (ca+A.length)))),(7,constSV (.int .i64 0)),(8,.s (.o (.k 5))),(9,.s (.o (.k 6))),(42,.s (.o (.k 6))),(43,.s (.o (.k 4)))]
   [⟨25,ks 0 4,true,none,false⟩,⟨25,[mkL ((c2+(0+l.length+1))*4) (frsC (l++[q79]))],true,none,false⟩,⟨3,[mkL ((ca+A.length)*1) (intsC A)],true,none,false⟩] 7 0
   (fun x_=>(rfC (rf x)).toList++[.slice p l.length c,.bool x_.2,.int .i64 (x_.1:Nat)]) (fun _=>[])
   (fun r x_=>x_.1+r=l.length+1∧x_.1≤l.length∧x_.2=(fmay (rf x)&&(l.take x_.1).all fmay)) ?_ (fun L=>?_)
 · rintro r ⟨i,m⟩ ⟨h1,h2,h3⟩ IH
   replace h1:i+r=l.length+1:=h1;replace h2:i≤l.length:=h2;replace h3:m=(fmay (rf x)&&(l.take i).all fmay):=h3
   refine Run.lnK p l.length c 104 ?_
   by_cases hi:i<l.length
   · obtain⟨r', rfl⟩:∃ r', r=r'+1:=⟨r-1,by omega⟩
     refine Run.ik .lss i (l.length:Nat) true (dT (by omega)) ?_
     have ta:=take_all hi h3
     have IH:=IH r' (i+1,m&&fmay (l.getD i rz.re)) rfl ⟨by show i+1+r'=_;omega,hi,ta⟩
     have fa:=R.at hi
     have fb:=row_at (s:=q79) hi
     have hpe:=R.pe hi
     have hBe:=R.Be hi
     generalize l.getD i rz.re=q at *
     cases m with
     | false =>
       refine Run.kn (b:=false) (c:=false) rfl ?_
       simp only [Bool.false_and] at IH
       refine Run.dq ?_
       refine RunQ.ia 1 l.length (c2+(0+l.length+1)) i 4 104 hi ?_
       refine RunQ.lh 1 (4*i) 4 25 (rfC q).toList (.s (.agg (ks 0 4))) (frsC (l++[q79])) fb ?_
       refine RunQ.iaK p b off l.length c i 4 104 hpe hi ?_
       refine RunQ.ldK b (off+4*i) 4 25 TT fr (rfC q).toList (.s (.agg (ks 0 4))) cur hBe fa rfl rfl ?_
       refine RunQ.bi (op:=.neq) (t:=25) (a:=rfV q) (c:=rfV q) [] (cb false) (fun w o ρ x y t' ho hx hy=>ex_neq_frac (r:=q) (q:=q) x y ho hx hy (c:=true) (decide_eq_true rfl)) ?_
       refine RunQ.en ?_
       refine Run.bi (op:=.add) (t:=3) (a:=.int .i64 i) (c:=.int .i64 1) [.int .i64 ((i+1:Nat):Int)] kb (fun w o ρ x y t' ho hx hy=>ex_iadd (wrap_62 (n:=(i:Int)+1) (by omega) (by omega)) ho hx hy) ?_
       refine Run.to far ?_
       exact Run.as (fun k=>k) id IH (hc:=by kernel_rfl) (hk:=by kernel_rfl)
     | true =>
       refine Run.kn (b:=true) (c:=true) rfl ?_
       simp only [Bool.true_and] at IH
       refine Run.iaK p b off l.length c i 4 104 hpe hi ?_
       refine Run.ldK b (off+4*i) 4 25 TT fr (rfC q).toList (.s (.agg (ks 0 4))) cur hBe fa rfl rfl ?_
       refine Run.cV [.bool (fmay q)] kb (fun _ _ _ H=>fMay q) ?_
       refine Run.dq ?_
       refine RunQ.ia 1 l.length (c2+(0+l.length+1)) i 4 104 hi ?_
       refine RunQ.lh 1 (4*i) 4 25 (rfC q).toList (.s (.agg (ks 0 4))) (frsC (l++[q79])) fb ?_
       refine RunQ.iaK p b off l.length c i 4 104 hpe hi ?_
       refine RunQ.ldK b (off+4*i) 4 25 TT fr (rfC q).toList (.s (.agg (ks 0 4))) cur hBe fa rfl rfl ?_
       refine RunQ.bi (op:=.neq) (t:=25) (a:=rfV q) (c:=rfV q) [] (cb false) (fun w o ρ x y t' ho hx hy=>ex_neq_frac (r:=q) (q:=q) x y ho hx hy (c:=true) (decide_eq_true rfl)) ?_
       refine RunQ.en ?_
       refine Run.bi (op:=.add) (t:=3) (a:=.int .i64 i) (c:=.int .i64 1) [.int .i64 ((i+1:Nat):Int)] kb (fun w o ρ x y t' ho hx hy=>ex_iadd (wrap_62 (n:=(i:Int)+1) (by omega) (by omega)) ho hx hy) ?_
       refine Run.to far ?_
       exact Run.as (fun k=>k) id IH (hc:=by kernel_rfl) (hk:=by kernel_rfl)
   · obtain rfl:i=l.length:=by omega
     refine Run.ik .lss (l.length:Nat) (l.length:Nat) false (dF (by omega)) ?_
     obtain rfl:m=true:=by rw [h3,List.take_length,p4,fmay_yes p3];rfl
     clear IH h3
     refine Run.dq ?_
     refine RunQ.lnK p l.length c 104 ?_
     refine RunQ.bi (op:=.add) (t:=3) (a:=.int .i64 (l.length:Nat)) (c:=.int .i64 1) [.int .i64 ((l.length+1:Nat):Int)] kb (fun w o ρ x y t' ho hx hy=>ex_iadd (wrap_62 (n:=(l.length:Int)+1) (by omega) (by omega)) ho hx hy) ?_
     refine RunQ.hs 1 l.length (c2+(0+l.length+1)) (l.length+1) 104 (by omega) ?_
     refine RunQ.lnK p l.length c 104 ?_
     refine RunQ.ia 1 (l.length+1) (c2+(0+l.length+1)) l.length 4 104 (by omega) ?_
     refine RunQ.lh 1 (4*l.length) 4 25 (rfC q79).toList (.s (.agg (ks 0 4))) (frsC (l++[q79])) row_end ?_
     refine RunQ.cV (fC (Rat.divInt 7 9)).toList (.s (.agg (ks 0 4))) (fun _ _ _ H=>l23of 7 9 (by decide) (by decide) (by decide) (by decide) (by decide)) ?_
     refine RunQ.bi (op:=.neq) (t:=25) (a:=rfV q79) (c:=rfV q79) [] (cb false) (fun w o ρ x y t' ho hx hy=>ex_neq_frac (r:=q79) (q:=q79) x y ho hx hy (c:=true) (decide_eq_true rfl)) ?_
     refine RunQ.en ?_
     refine Run.kn (b:=true) (c:=true) rfl ?_
     refine Run.tl (l.length+1) ?_
     refine Run.lpX (ι:=Nat×Nat) [(1,.s (.o (.k 4))),(2,.s (.o (.p 0 0))),(6,.s (.o (.ls 1 A.length (ca+A.length)))),(7,constSV (.int .i64 0)),(10,.s (.o (.k 5))),(11,.s (.o (.k 6))),(89,.s (.o (.k 6))),(90,.s (.o (.k 4)))]
       [⟨25,ks 0 4,true,none,false⟩,⟨3,[mkL ((ca+A.length)*1) (intsC A)],true,none,false⟩] 7 0
       (fun x_=>(rfC (rf x)).toList++[.slice p l.length c,.int .i64 (x_.2:Nat),.int .i64 (x_.1:Nat)]) (fun _=>[])
       (fun r x_=>x_.1+r=l.length+1∧x_.1≤l.length∧x_.2≤A.length∧A.drop x_.2=metL x x_.1 (l.drop x_.1)) ?_ (fun L=>?_)
     · rintro r ⟨i,n⟩ ⟨h1,h2,h4,h3⟩ IH
       replace h1:i+r=l.length+1:=h1;replace h2:i≤l.length:=h2;replace h4:n≤A.length:=h4;replace h3:A.drop n=metL x i (l.drop i):=h3
       refine Run.lnK p l.length c 104 ?_
       by_cases hi:i<l.length
       · obtain⟨r', rfl⟩:∃ r', r=r'+1:=⟨r-1,by omega⟩
         refine Run.ik .lss i (l.length:Nat) true (dT (by omega)) ?_
         have hm:=fmayAt p4 hi
         have fa:=R.at hi
         have hpe:=R.pe hi
         have hBe:=R.Be hi
         cases hb:metB x (valM (l.getD i rz.re)) with
         | false =>
           have IH:=IH r' (i+1,n) rfl ⟨by show i+1+r'=_;omega,hi,h4,by rw [← metL_f hi hb];exact h3⟩
           clear h3
           generalize l.getD i rz.re=q at *
           refine Run.dq ?_
           refine RunQ.iaK p b off l.length c i 4 104 hpe hi ?_
           refine RunQ.ldK b (off+4*i) 4 25 TT fr (rfC q).toList (.s (.agg (ks 0 4))) cur hBe fa rfl rfl ?_
           refine RunQ.cV [] (cb false) (fun _ _ _ H=>rfMetB x q hm f0 hb) ?_
           refine RunQ.en ?_
           refine Run.bi (op:=.add) (t:=3) (a:=.int .i64 i) (c:=.int .i64 1) [.int .i64 ((i+1:Nat):Int)] kb (fun w o ρ x y t' ho hx hy=>ex_iadd (wrap_62 (n:=(i:Int)+1) (by omega) (by omega)) ho hx hy) ?_
           refine Run.to far ?_
           exact Run.as (fun k=>k) id IH (hc:=by kernel_rfl) (hk:=by kernel_rfl)
         | true =>
           rw [metL_t hi hb] at h3
           obtain⟨k1,k2,k3⟩:=drop_hd h3
           have IH:=IH r' (i+1,n+1) rfl ⟨by show i+1+r'=_;omega,hi,k1,k3⟩
           clear h3 k3
           generalize l.getD i rz.re=q at *
           refine Run.dq ?_
           refine RunQ.iaK p b off l.length c i 4 104 hpe hi ?_
           refine RunQ.ldK b (off+4*i) 4 25 TT fr (rfC q).toList (.s (.agg (ks 0 4))) cur hBe fa rfl rfl ?_
           refine RunQ.cV [] (cb true) (fun _ _ _ H=>rfMetB x q hm f0 hb) ?_
           refine RunQ.en ?_
           refine Run.ln A.length 31 ?_
           refine Run.ik .geq n (A.length:Nat) false (dF (by omega)) ?_
           refine Run.ia 1 A.length (ca+A.length) n 1 31 k1 ?_
           refine Run.lh 1 (1*n) 1 3 [.int .i64 (i:Nat)] kb (intsC A) k2 ?_
           refine Run.ik .neq i i false (by simp [cmpB]) ?_
           refine Run.bi (op:=.add) (t:=3) (a:=.int .i64 n) (c:=.int .i64 1) [.int .i64 ((n+1:Nat):Int)] kb (fun w o ρ x y t' ho hx hy=>ex_iadd (wrap_62 (n:=(n:Int)+1) (by omega) (by omega)) ho hx hy) ?_
           refine Run.bi (op:=.add) (t:=3) (a:=.int .i64 i) (c:=.int .i64 1) [.int .i64 ((i+1:Nat):Int)] kb (fun w o ρ x y t' ho hx hy=>ex_iadd (wrap_62 (n:=(i:Int)+1) (by omega) (by omega)) ho hx hy) ?_
           refine Run.to far ?_
           exact Run.as (fun k=>k) id IH (hc:=by kernel_rfl) (hk:=by kernel_rfl)
       · obtain rfl:i=l.length:=by omega
         refine Run.ik .lss (l.length:Nat) (l.length:Nat) false (dF (by omega)) ?_
         rw [metL_0] at h3
         have hn:A.length≤n:=List.drop_eq_nil_iff.1 h3
         refine Run.ln A.length 31 ?_
         refine Run.ik .eql n (A.length:Nat) true (dT (by omega)) ?_
         refine Run.cV [] (.s (.o (.c (.int .i64 0)))) (fun _ _ _ H=>l23num 0) ?_
         refine Run.cV [] (cb true) (fun _ _ _ H=>l23works) ?_
         exact Run.rV rfl
     · refine Run.to far ?_
       exact Run.as (fun k=>k) (fun k=>if k=1 then 2 else k) (L (l.length+1) (0,0) ⟨by show 0+(l.length+1)=_;omega,by show 0≤_;omega,by show 0≤_;omega,by show A=metL x 0 l;exact p5.symm⟩) (hc:=by kernel_rfl) (hk:=by kernel_rfl)
 · refine Run.to far ?_
   exact Run.as (fun k=>k) (fun k=>if k=1 then 2 else if k=2 then 4 else k) (L (l.length+1) (0,fmay (rf x)) ⟨by show 0+(l.length+1)=_;omega,by show 0≤_;omega,by show fmay (rf x)=(fmay (rf x)&&(l.take 0).all fmay);simp⟩) (hc:=by kernel_rfl) (hk:=by kernel_rfl)
end Go.Proofs.YtcdbmjnipaochaaGreat
namespace Go.Proofs.YtcdbmjnipaochaaGreat
open Go.ChangeShapes Go.WideShapes Go.ChangeAt Go.RowKit
theorem list2{cs:List Value}(h:cs.length=2):∃ a b,cs=[a,b]:=by
 match cs,h with
 | [a,b],_=>exact⟨a,b,rfl⟩
theorem list4{cs:List Value}(h:cs.length=4):∃ a b c d,cs=[a,b,c,d]:=by
 match cs,h with
 | [a,b,c,d],_=>exact⟨a,b,c,d,rfl⟩
section
variable {H:Type} {enc:TypeId×Value→H} {w:World} {base:Nat} {spare:Nat→Bool} {held:Bool}
theorem rd_whole{fuel:Nat}{cs:List Value}{x:DataW H×List MemPlace}(h:DataW.trod enc Tryz.prog w base spare held fuel 23 cs=some x):∃ r:RW,cs=(rwC r).toList:=by
 obtain⟨y0,y1,n,_,hl,h0,h1⟩:=trod_struct2 Tryz.underlying23 h
 obtain⟨b,e0,_⟩:=DataW.trod_bool Tryz.underlying4 h0
 obtain⟨s,e1,_,_⟩:=DataW.trod_string Tryz.underlying9 h1
 rw [show Tryz.prog.cellsOf 23=2 by kernel_rfl] at hl
 rw [show Tryz.prog.cellsOf 4=1 by kernel_rfl] at e0
 rw [show Tryz.prog.cellsOf 9=1 by kernel_rfl] at e1
 obtain⟨u,v,rfl⟩:=list2 hl
 simp only [List.drop_zero,List.take_succ_cons,List.take_zero,List.cons.injEq,and_true] at e0
 simp only [List.drop_succ_cons,List.drop_zero,List.take_succ_cons,List.take_zero,List.cons.injEq,and_true] at e1
 subst e0;subst e1
 exact⟨⟨b,s⟩,rfl⟩
theorem rd_frac{fuel:Nat}{cs:List Value}{x:DataW H×List MemPlace}(h:DataW.trod enc Tryz.prog w base spare held fuel 25 cs=some x):∃ r:RF,cs=(rfC r).toList:=by
 obtain⟨y0,y1,n,_,hl,h0,h1⟩:=trod_struct2 Tryz.underlying25 h
 obtain⟨a,e0⟩:=rd_whole h0
 obtain⟨b,e1⟩:=rd_whole h1
 rw [show Tryz.prog.cellsOf 25=4 by kernel_rfl] at hl
 rw [show Tryz.prog.cellsOf 23=2 by kernel_rfl] at e0 e1
 obtain⟨u0,u1,u2,u3,rfl⟩:=list4 hl
 simp only [List.drop_zero,List.drop_succ_cons,List.take_succ_cons,List.take_zero,List.cons.injEq,and_true] at e0 e1
 obtain⟨rfl,rfl⟩:=e0
 obtain⟨rfl,rfl⟩:=e1
 exact⟨⟨a,b⟩,rfl⟩
end
end Go.Proofs.YtcdbmjnipaochaaGreat
namespace Go.Proofs.YtcdbmjnipaochaaGreat
open Go.ChangeShapes Go.WideShapes Go.ChangeAt Go.RowKit
section
variable {H:Type} {enc:TypeId×Value→H} {w:World} {base:Nat} {spare:Nat→Bool} {held:Bool}
theorem open_frac{r:Reach}{b0:Nat}{v:Value}{d:DataW H}{p:List MemPlace}(hv:Value.okWide Tryz.prog w r b0 25 v)(h:DataW.Trod enc Tryz.prog w base spare held 25 v d p):∃ r:RF,v=rfV r:=by
 obtain⟨cs,rfl,_⟩:=okWide_struct Tryz.underlying25 hv
 obtain⟨fuel,hf⟩:=h
 obtain⟨r,e⟩:=rd_frac hf
 exact⟨r,by rw [show cs=rfC r from Array.ext' e]⟩
end
structure FIn (W:World) where
 l:List RF
 p:Option Addr
 c:Nat
 b:Nat
 off:Nat
 cur:Array Value
 TT:TypeId
 fr:Nat×Nat
 R:FRow W l p b off cur TT fr
 hl:l.length≤9223372036854775807
theorem flat_hR{cur:Array Value}{off:Nat}{l:List RF}(h:∀ i,i<l.length→∀ k u,(rfC (l.getD i rz.re)).toList[k]? = some u→cur[off+4*i+k]? = some u):(cur.toList.drop off).take (l.length*4)=(frsC l).toList:=by
 apply List.ext_getElem?
 intro j
 by_cases hj:j<l.length*4
 ·have hi:j/4<l.length:=by omega
  have hk:j%4<4:=Nat.mod_lt _ (by decide)
  have ej:j=4*(j/4)+j%4:=by omega
  generalize j/4=i at *
  generalize j%4=k at *
  subst ej
  have e1:(frsC l).toList[4*i+k]? = (rfC (l.getD i rz.re)).toList[k]?:=by
   rw [← frsC_at hi,List.getElem?_take_of_lt hk,List.getElem?_drop]
  have hk' : k<(rfC (l.getD i rz.re)).toList.length:=hk
  have e2:(rfC (l.getD i rz.re)).toList[k]? = some ((rfC (l.getD i rz.re)).toList[k]'hk'):=List.getElem?_eq_getElem hk'
  rw [e1,e2,List.getElem?_take_of_lt hj,List.getElem?_drop]
  have:=h i hi k _ e2
  rw [← Nat.add_assoc]
  simpa using this
 ·rw [List.getElem?_eq_none (by simp;omega),List.getElem?_eq_none (by rw [Array.length_toList,frsC_size];omega)]
section
variable {H:Type} {enc:TypeId×Value→H} {w:World} {base:Nat} {spare:Nat→Bool} {held:Bool}
theorem open_frs{r:Reach}{b0:Nat}{v:Value}{d:DataW H}{pl:List MemPlace}(hv:Value.okWide Tryz.prog w r b0 104 v)(h:DataW.Trod enc Tryz.prog w base spare held 104 v d pl):∃ z:FIn w,v=.slice z.p z.l.length z.c:=by
 obtain⟨a,len,cap,rfl⟩:=okWide_slice Tryz.underlying104 hv
 obtain⟨fuel,hf⟩:=h
 rcases Deep.open_slice Tryz.underlying104 hf with⟨e,hx⟩|⟨a', len', cap', m,n,D,Pl,e,_,hl,hm,hmm,hx,hel⟩
 ·have e:=List.cons.inj e
  cases e.1
  exact⟨⟨[],none,0,0,0,#[],0,(0,0),⟨fun h=>absurd rfl h,fun h=>absurd rfl h,rfl⟩,Nat.zero_le _⟩,rfl⟩
 ·have e:=List.cons.inj e
  cases e.1
  rw [show Tryz.prog.cellsOf 25=4 by kernel_rfl] at hel
  have hle:len≤m:=by rw [hmm];split<;>omega
  have hex:∀ i,i<len→∃ q:RF,∀ k u,(rfC q).toList[k]? = some u→w.cell? ((a'.add (i*4)).add k)=some u:=fun i hi=>by
   obtain⟨cs,h1,h2⟩:=hel i (by omega)
   obtain⟨q,rfl⟩:=rd_frac h2
   obtain⟨_,h3,h4⟩:=World.cells?_some h1
   refine⟨q,fun k u hk=>?_⟩
   have:=(List.getElem?_eq_some_iff.1 hk).1
   rw [h4 k (by rw [← h3];exact this)];exact hk
  haveI:Inhabited RF:=⟨rz.re⟩
  obtain⟨f,hf⟩:=Deep.choose_lt (α:=RF) (p:=fun i q=>∀ k u,(rfC q).toList[k]? = some u→w.cell? ((a'.add (i*4)).add k)=some u) hex
  have hlen:((List.range len).map f).length=len:=by simp
  have hmax:len≤9223372036854775807:=by
   have:cap≤9223372036854775807:=by simpa [maxLen] using hm
   omega
  by_cases h0:len=0
  ·subst h0
   exact⟨⟨[],some a', cap,0,0,#[],0,(0,0),⟨fun h=>absurd rfl h,fun h=>absurd rfl h,rfl⟩,Nat.zero_le _⟩,rfl⟩
  have hc0:=hf 0 (by omega) 0 _ rfl
  obtain⟨b,off,spot⟩:=a'
  have hsp:spot=none:=by
   cases spot with
   | none=>rfl
   | some s=>simp [Addr.add,World.cell?] at hc0;split at hc0<;>simp at hc0
  subst hsp
  have hcell:∀ j u,w.cell? ((⟨b,off,none⟩:Addr).add j)=some u→∃ cur T fr,w.heap[b]? = some (.cells cur T fr)∧cur[off+j]? = some u:=fun j u hj=>by
   rw [Addr.add_lit] at hj
   simp only [World.cell?] at hj
   split at hj
   ·rename_i c T fr hB
    exact⟨c,T,fr,hB,by simpa using hj⟩
   ·cases hj
  obtain⟨cur,T,fr,hB,_⟩:=hcell 0 _ (by simpa [Addr.add_lit] using hc0)
  refine⟨⟨(List.range len).map f,some ⟨b,off,none⟩,cap,b,off,cur,T,fr,⟨fun _=>rfl,fun _=>hB,flat_hR fun i hi k u hk=>?_⟩,by rw [hlen];exact hmax⟩,congrArg (fun n=>Value.slice (some ⟨b,off,none⟩) n cap) hlen.symm⟩
  have hi3:i<len:=by simpa using hi
  have hq:((List.range len).map f).getD i rz.re=f i:=by simp [List.getD_eq_getElem?_getD,hi3]
  rw [hq] at hk
  have h1:=hf i hi3 k u hk
  have h2:((⟨b,off,none⟩:Addr).add (i*4)).add k=(⟨b,off,none⟩:Addr).add (4*i+k):=by rw [Deep.add_add,Nat.mul_comm]
  rw [h2] at h1
  obtain⟨cur', T', fr', hB', h3⟩:=hcell _ _ h1
  rw [hB] at hB'
  cases hB'
  rwa [Nat.add_assoc]
end
end Go.Proofs.YtcdbmjnipaochaaGreat
namespace Go.Proofs.YtcdbmjnipaochaaGreat
open Go.ChangeShapes Go.WideShapes Go.ChangeAt Go.RowKit Go.WideElems
theorem law_own:ownKnob Tryz.prog.godebug=none:=by kernel_rfl
theorem law_laid:laidOutB Tryz.prog=true:=by kernel_rfl
section
variable {H:Type} {enc:TypeId×Value→H}
theorem trodAll_stays{W W': World}{sp:Nat→Bool}:∀ {ts:List TypeId} {vs:List Value} {ds:List (DataW H)} {ps:List MemPlace},(∀ t ∈ ts,Tryz.prog.readableRec t=true∧t<Tryz.prog.types.size) →
  DataW.TrodAll enc Tryz.prog W 0 (fun _=>true) true ts vs ds ps→(∀ p ∈ ps,W.sameAt W' p)→(∀ p ∈ ps,sp p.block=true)→DataW.TrodAll enc Tryz.prog W' 0 sp true ts vs ds ps:=by
 intro ts
 induction ts with
 | nil =>
  intro vs ds ps _ h _ _
  obtain⟨rfl,rfl,rfl⟩:=trodAll_nil h
  exact trodAll_mk0
 | cons t ts ih =>
  intro vs ds ps ht h hs hb
  obtain⟨v,vs', d,ds', p,p', rfl,rfl,rfl,h0,h1⟩:=trodAll_cons h
  obtain⟨h2,h3⟩:=ht t (by simp)
  exact trodAll_cons_mk (Trod_stays law_laid h2 h3 h0 (fun q hq=>hs q (by simp [hq])) (fun q hq=>hb q (by simp [hq]))) (ih (fun t ht' => ht t (by simp [ht'])) h1 (fun q hq=>hs q (by simp [hq])) (fun q hq=>hb q (by simp [hq])))
theorem law_post{f:Func}{s:ChangeSpec}{fresh handsOn again:Bool}{W W': World}{args:Array Value}{ds gs:List (DataW H)}{before:List MemPlace}(hW:DataW.Whole enc Tryz.prog f.params.toList s.vars false W args.toList ds gs before)(hv:s.vars=[])(hfn:s.fn H ds={ results:=[.lit (.bool true)],args:=ds })(hr:f.resultTypes=#[4])(hp:f.params.toList.all (fun t=>Tryz.prog.readableRec t&&decide (t<Tryz.prog.types.size))=true)(hb:Below W.heap.size W W'):s.post enc Tryz.prog f false fresh handsOn again W args (.bool true) W' := by
 have hlt:∀ p ∈ before,p.block<W.heap.size:=fun p hq=>hW.lt p hq
 have hW' := hW
 obtain⟨p,q,hA,hV,rfl,hfz,hnd⟩:=hW
 rw [hv] at hV
 obtain⟨rfl,rfl⟩:=trodVars_none hV
 have hpar:∀ t ∈ f.params.toList,Tryz.prog.readableRec t=true∧t<Tryz.prog.types.size:=fun t ht=>by
  have:=List.all_eq_true.1 hp t ht
  simpa using this
 have hargs:∀ sp:Nat→Bool,(∀ x ∈ p++[],sp x.block=true)→DataW.TrodAll enc Tryz.prog W' 0 sp true f.params.toList args.toList ds p:=fun sp hs =>
  trodAll_stays hpar hA (fun x hx=>hb.same (hlt x (by simp [hx]))) (fun x hx=>hs x (by simp [hx]))
 have hres:∀ (b:Nat) (sp:Nat→Bool) (hd:Bool),DataW.TrodAll enc Tryz.prog W' b sp hd f.resultTypes.toList (Value.resultList f.resultTypes.size (.bool true)) [.lit (.bool true)] []:=fun _ _ _=>by
  rw [hr]
  exact trodAll_cons_mk (shut_bool Tryz.underlying4 _) trodAll_mk0
 have hold:∀ x ∈ p++[],(fun b=>decide (b<W.heap.size)) x.block=true:=fun x hx=>by simpa using hlt x hx
 have hfn' : s.fn H (ds++[])={ results:=[.lit (.bool true)],args:=ds }:=by rw [List.append_nil];exact hfn
 refine⟨ds,[],p++[],[],p,[],hW', by rw [hfn'];exact hres _ _ _,by rw [hfn'];exact hargs _ hold,by rw [hv,hfn'];rfl,World.keptBut_mono (fun x hx=>⟨hx,?_⟩) (hb.frame (· ∈ p++[])),fun _=>?_⟩
 ·simpa using hx
 ·refine⟨ok_one hr rfl (okWide_bool_mk Tryz.underlying4 _),_,[],([]++p)++[],⟨[]++p,[],trodAll_append (hargs _ (fun _ _=>rfl)) (hres _ _ _),by rw [hv];rfl,rfl,?_,?_⟩,?_⟩
  ·intro b off hx
   have hin:MemPlace.cell b off ∈ p++[]:=by simpa using hx
   rw [hb.frozen (hlt _ hin)]
   exact hfz b off hin
  ·intro ha
   have:=hnd ha
   simpa using this
  ·intro x hx _
   simpa using hx
end
end Go.Proofs.YtcdbmjnipaochaaGreat
namespace Go.Proofs.YtcdbmjnipaochaaGreat.fordMetLaw
open Go.ChangeShapes Go.WideShapes Go.ChangeAt Go.RowKit
theorem metL_len(x:Rat):∀ (l:List RF) (i:Nat),(metL x i l).length≤l.length
 | [],_=>Nat.le_refl _
 | q::l,i=>by
  have:=metL_len x l (i+1)
  rw [metL]
  split<;>simp only [List.length_cons]<;>omega
theorem lLaw{W:World}(x:RF)(z:FIn W):Calls Tryz.prog 7 #[rfV x,.slice z.p z.l.length z.c] W (RetV (.bool true) W):=by
 obtain⟨l,p,c,b,off,cur,TT,fr,R,hl⟩:=z
 show Calls Tryz.prog 7 #[rfV x,.slice p l.length c] W (RetV (.bool true) W)
 cases h:[x].any lgD with
 | true=>exact lFm1 x l p c R h
 | false=>cases h1:l.any lgD with
  | true=>exact lFm2 x l p c R hl h h1
  | false =>
   by_cases h2:40<l.length
   ·exact lFm3 x l p c R hl h h1 h2
   have h2:l.length≤40:=by omega
   cases h3:fmay x with
   | false=>exact lFmN x l p c R h h1 h2 h3
   | true =>
    obtain⟨x,rfl⟩:=fmay_ex h3
    rw [fmay_rf] at h3
    cases h4:l.all fmay with
    | false=>exact lFmF x l p c R h h1 h2 h3 h4
    | true =>
     have h6:=metL_len x l 0
     cases h5:metL x 0 l with
     | nil=>exact lFmB x l p c R h h1 h2 h3 h4 h5
     | cons i A=>exact lFmC x l p c R h h1 h2 h3 h4 (i::A) h5 (by simp) (by rw [h5] at h6;omega)
theorem contract(H:Type)(enc:TypeId×Value→H)(W:World)(base:Nat)(args:Array Value)(ds gs:List (DataW H))(before:List MemPlace)(hval:∀ (j:Nat) t v,Tryz.f7.params[j]? = some t→args[j]? = some v→Value.okWide Tryz.prog W .any base t v)(hW:DataW.Whole enc Tryz.prog Tryz.f7.params.toList Rows.fordMetSpec.vars false W args.toList ds gs before):Calls Tryz.prog 7 args W fun e W' => ∃ v,e=.returned v∧Rows.fordMetSpec.post enc Tryz.prog Tryz.f7 false true false false W args v W' := by
 have hW' := hW
 obtain⟨p,q,hA,hV,rfl,hfz,hnd⟩:=hW
 rw [Tryz.params7] at hA hval
 obtain⟨v0,vs0,d0,ds0,p0,q0,hargs,rfl,rfl,h0,r0⟩:=trodAll_cons hA
 obtain⟨v1,vs1,d1,ds1,p1,q1,rfl,rfl,rfl,h1,r1⟩:=trodAll_cons r0
 obtain⟨rfl,rfl,rfl⟩:=trodAll_nil r1
 obtain rfl:args=#[v0,v1]:=by cases args;simp_all
 obtain⟨rfl,rfl⟩:=trodVars_none hV
 obtain⟨x,rfl⟩:=open_frac (hval 0 _ v0 rfl rfl) h0
 obtain⟨z,rfl⟩:=open_frs (hval 1 _ v1 rfl rfl) h1
 refine (lLaw x z).mono fun e W' h=>?_
 obtain⟨h1,h2⟩:=h.is
 exact⟨_,h1,law_post hW' rfl rfl rfl (by kernel_rfl) h2⟩
theorem lifted(os:Os)(started:os.Started)(H:Type)(enc:TypeId×Value→H):ReturnsInHanded {} Tryz.checked os 7 .any (Rows.fordMetSpec.pre6 enc Tryz.prog Tryz.f7 Rows.fordMetRow.domain false) (Rows.fordMetSpec.post enc Tryz.prog Tryz.f7 false true false false):=by
 refine returnsInHanded_of_change (C:=Tryz.checked) law_own started (by kernel_rfl) Tryz.func7
  (ChangeSpec.witness6 (enc:=enc) (C:=Tryz.checked) false ⟨#[],#[.agg #[.bool false,.string ⟨#[]⟩,.bool false,.string ⟨#[]⟩],.slice none 0 0],[]⟩ 8 (by kernel_rfl) (by kernel_rfl) (by kernel_rfl) (by kernel_rfl)) ?_
 intro W base args ds gs before hval hW _ _
 exact contract H enc W base args ds gs before hval hW
theorem kA:Tryz.pinned.checked.prog.funcNamed Rows.fordMetRow.func=some 7:=by kernel_rfl
theorem laidP:laidOutB Tryz.pinned.checked.prog=true:=law_laid
theorem kB:joinedFacts Tryz.pinned.checked.prog 7 Tryz.f7 Rows.fordMetSpec Rows.fordMetRow=true:=by
 unfold joinedFacts
 simp only [Bool.and_eq_true]
 repeat' apply And.intro
 all_goals first|with_reducible exact laidP|as_aux_lemma=>kernel_rfl
theorem kC:Tryz.f7.isInstance Tryz.pinned.checked.prog Rows.fordMetRow.origin Rows.fordMetRow.targs:=of_decide_eq_true (by kernel_rfl)
theorem kD:Tryz.f7.isWrapper Tryz.pinned.checked.prog Rows.fordMetRow.wrapper Rows.fordMetRow.mainSum:=by
 unfold Func.isWrapper;first|(rw [if_pos (by decide +kernel)];kernel_rfl)|(rw [if_neg (by decide +kernel)];exact⟨rfl,rfl⟩)
theorem over:Rows.FordMetSaid :=
 OpenClaim.holds_of_wide 7 Tryz.f7 rfl rfl rfl rfl rfl rfl rfl ⟨rfl,rfl,rfl,rfl,rfl⟩ rfl rfl rfl rfl rfl kA Tryz.func7 kB kC kD
  (fun os started H enc _=>lifted os started H enc)
end Go.Proofs.YtcdbmjnipaochaaGreat.fordMetLaw
namespace Go.Proofs.YtcdbmjnipaochaaGreat
theorem fordMet_proved:Rows.FordMetSaid:=fordMetLaw.over
end Go.Proofs.YtcdbmjnipaochaaGreat
