import Derived.WalkKit
import Derived.StillTail
import Derived.Test.YtcdbmjnipaochaaGreatRows
import Derived.WalkSpells
import Derived.WalkLawsBesides
import Derived.Lib.Hide
import Derived.Deep.QuietTactic
import Derived.BigQuiet
import Derived.OpenShut
import Derived.Handy
import Derived.Lib.EndianBits
import Derived.ProofKit
set_option linter.unusedVariables false
set_option linter.unusedSimpArgs false
set_option maxHeartbeats 8000000
set_option maxRecDepth 100000
namespace Go.Proofs.YtcdbmjnipaochaaGreat.Rgn
open Go
section
variable {P:Program} {ops:Array Oper} {Q:Exit→Act→World→Prop}
def dstOf(ops:Array Oper)(i:Nat):Option Tmp:=(ops[i]?).bind (·.dst)
structure Got where
 v:Value
 lo:Nat
 hi:Nat
def fill(ops:Array Oper)(u:Nat→Got):Nat→Act→Act
 | 0,a=>a
 | n+1,a=>(fill ops u n a).put (dstOf ops n) (u n).v
def upd(u:Nat→Got)(i:Nat)(v:Got):Nat→Got:=fun j=>if j=i then v else u j
theorem upd_same(u:Nat→Got)(i:Nat)(v:Got):upd u i v i=v:=by simp [upd]
theorem upd_other(u:Nat→Got){i j:Nat}(v:Got)(h:j≠i):upd u i v j=u j:=by simp [upd,h]
def apartB(ops:Array Oper):Bool:=(List.range ops.size).all fun i=>(List.range i).all fun j=>match dstOf ops i,dstOf ops j with|some d,some e=>d != e|_,_=>true
theorem apart_spec(h:apartB ops=true){i j:Nat}(hi:i<ops.size)(hj:j<i){d:Tmp}(hd:dstOf ops i=some d):dstOf ops j≠some d:=by
 intro he
 have h1:=List.all_eq_true.1 h i (List.mem_range.2 hi)
 have h2:=List.all_eq_true.1 h1 j (List.mem_range.2 hj)
 simp [hd,he] at h2
theorem put_put_same(a:Act)(d:Option Tmp)(v v': Value):(a.put d v).put d v'=a.put d v' := by
 cases d<;>simp [Act.put]
theorem fill_congr(u u': Nat→Got)(a:Act):∀ n,(∀ j,j<n→u j=u' j)→fill ops u n a=fill ops u' n a
 | 0,_=>rfl
 | n+1,h=>by simp only [fill];rw [fill_congr u u' a n (fun j hj=>h j (by omega)),h n (by omega)]
theorem fill_upd(hap:apartB ops=true)(u:Nat→Got)(a:Act)(v:Got)(i:Nat)(hi:i<ops.size):∀ n,i<n→n≤ops.size→fill ops (upd u i v) n a=(fill ops u n a).put (dstOf ops i) v.v
 | 0,h,_=>by omega
 | n+1,h,hn=>by
  simp only [fill]
  rcases Nat.lt_or_ge i n with hlt|hge
  ·rw [fill_upd hap u a v i hi n hlt (by omega),upd_other u v (by omega:n≠i)]
   refine Act.put_comm _ _ _ ?_
   intro d hd he
   exact apart_spec hap (by omega) hlt he hd
  ·have e:i=n:=by omega
   subst e
   rw [upd_same,put_put_same,fill_congr (upd u i v) u a i (fun j hj=>upd_other u v (by omega))]
def start(ops:Array Oper)(a:Act):Nat→Got:=fun i=>⟨match dstOf ops i with|some d=>a.tmps.getD d undef|none=>undef,0,0⟩
theorem fill_start(a:Act):∀ n,fill ops (start ops a) n a=a
 | 0=>rfl
 | n+1=>by
  simp only [fill]
  rw [fill_start a n]
  simp only [start]
  cases h:dstOf ops n with
  | none=>rfl
  | some d =>
   simp only [Act.put]
   obtain⟨t,df⟩:=a
   simp only [Act.mk.injEq,and_true]
   apply Array.ext
   ·simp
   ·intro k hk hk'
    by_cases hh:d=k
    ·subst hh
     simp [Array.getD,hk']
    ·exact Array.getElem_setIfInBounds_ne _ hh
def direct(ops:Array Oper)(i j:Nat):Bool:=match ops[i]? with|some o=>o.after.any fun e=>Region.binds .any e&&e.on == j|none=>false
def pre(ops:Array Oper)(i j:Nat):Bool:=((Region.before ops).getD i 0).testBit j
def preB(ops:Array Oper):Bool :=
 (List.range ops.size).all fun i=>((List.range ops.size).all fun j=>!pre ops i j||(direct ops i j||(List.range ops.size).any fun k=>direct ops i k&&pre ops k j)) &&
  (match ops[i]? with|some o=>o.after.all fun e=>!Region.binds .any e||decide (e.on<i)|none=>true)
theorem all_range{n:Nat}{p:Nat→Bool}(h:(List.range n).all p=true){i:Nat}(hi:i<n):p i=true:=List.all_eq_true.1 h i (List.mem_range.2 hi)
theorem pre_spec(h:preB ops=true){i j:Nat}(hi:i<ops.size)(hj:j<ops.size)(hp:pre ops i j=true):direct ops i j=true∨∃ k,k<ops.size∧direct ops i k=true∧pre ops k j=true:=by
 have h1:=all_range h hi
 simp only [Bool.and_eq_true] at h1
 have h2:=all_range h1.1 hj
 simp only [hp,Bool.not_true,Bool.false_or,Bool.or_eq_true] at h2
 rcases h2 with h2|h2
 ·exact .inl h2
 ·obtain⟨k,hk,hh⟩:=List.any_eq_true.1 h2
  simp only [Bool.and_eq_true] at hh
  exact .inr ⟨k,List.mem_range.1 hk,hh.1,hh.2⟩
theorem back_spec(h:preB ops=true){i:Nat}{o:Oper}(ho:ops[i]? = some o){e:Edge}(he:e ∈ o.after)(hb:Region.binds .any e=true):e.on<i:=by
 have hi:i<ops.size:=(Array.getElem?_eq_some_iff.1 ho).1
 have h1:=all_range h hi
 simp only [Bool.and_eq_true,ho] at h1
 have h2:=Array.all_eq_true_iff_forall_mem.1 h1.2 e he
 simpa [hb] using h2
theorem direct_of{i:Nat}{o:Oper}(ho:ops[i]? = some o){j:Nat}:direct ops i j=true↔∃ e ∈ o.after,Region.binds .any e=true∧e.on=j:=by
 unfold direct
 rw [ho]
 constructor
 ·intro h
  obtain⟨e,he,hh⟩:=Array.any_eq_true'.1 h
  simp only [Bool.and_eq_true,beq_iff_eq] at hh
  exact⟨e,he,hh⟩
 ·rintro⟨e,he,hb,rfl⟩
  exact Array.any_eq_true'.2 ⟨e,he,by simp [hb]⟩
structure Holds (ops:Array Oper) (I:(Nat→Bool)→(Nat→Got)→World→Prop) (a0:Act) (listed:Array Bool) (a:Act) (w:World):Prop where
 closed:∀ i j,i<ops.size→j<ops.size→listed.getD i false=true→pre ops i j=true→listed.getD j false=true
 inv:∃ u,a=fill ops u ops.size a0∧I (fun i=>listed.getD i false) u w
theorem wpAny_inv(hpre:preB ops=true)(hap:apartB ops=true)(I:(Nat→Bool)→(Nat→Got)→World→Prop)(a0:Act)(step:∀ (L:Nat→Bool) i o,ops[i]? = some o→L i=false→(∀ j,j<ops.size→pre ops i j=true→L j=true) →
   (∀ p q,p<ops.size→q<ops.size→L p=true→pre ops p q=true→L q=true)→∀ u w,I L u w →
   wpOp P ops Q i (fun a' w' => ∃ v:Got,a'=(fill ops u ops.size a0).put o.dst v.v∧I (fun j=>j == i||L j) (upd u i v) w') (fill ops u ops.size a0) w)(fin:∀ L u w,(∀ i,i<ops.size→L i=true)→I L u w→Q .normal (fill ops u ops.size a0) w):∀ (fuel:Nat) (listed:Array Bool) (a:Act) (w:World),listed.size=ops.size→Holds ops I a0 listed a w →
   (Nat.succ fuel>(List.range ops.size).countP (fun i=>!listed.getD i false))→wpAny P .any ops Q fuel listed a w:=by
 have done:∀ (listed:Array Bool) (a:Act) (w:World),listed.size=ops.size→Holds ops I a0 listed a w→Region.ready .any ops listed=[]→Q .normal a w:=by
  intro listed a w hsz h hr
  obtain⟨u,rfl,hI⟩:=h.inv
  refine fin _ u w ?_ hI
  intro i
  induction i using Nat.strongRecOn with
  | _ i ih =>
   intro hi
   cases hl:listed.getD i false with
   | true=>rfl
   | false =>
    exfalso
    obtain⟨o,ho⟩:∃ o,ops[i]? = some o:=⟨ops[i],by simp [hi]⟩
    have hm:i ∈ Region.ready .any ops listed:=by
     rw [mem_ready]
     refine⟨?_,o,ho,fun e he hb=>?_⟩
     ·have h1:i<listed.size:=by omega
      simpa [Array.getD,h1] using hl
     ·have:=back_spec hpre ho he hb
      exact ih _ this (by omega)
    rw [hr] at hm
    cases hm
 intro fuel
 induction fuel with
 | zero =>
  intro listed a w hsz h hc
  have hz:(List.range ops.size).countP (fun i=>!listed.getD i false)=0:=by omega
  have hall:∀ i,i<ops.size→listed.getD i false=true:=fun i hi=>by
   have:=(List.countP_eq_zero.1 hz) i (List.mem_range.2 hi)
   simpa using this
  have hr:Region.ready .any ops listed=[]:=by
   apply List.eq_nil_iff_forall_not_mem.2
   intro i hi
   obtain⟨h0,o,ho,_⟩:=mem_ready.1 hi
   have hlt:i<ops.size:=(Array.getElem?_eq_some_iff.1 ho).1
   have h1:=hall i hlt
   have h2:i<listed.size:=by omega
   simp only [Array.getD,h2,dite_true] at h0 h1
   rw [h0] at h1
   cases h1
  exact⟨hr,done listed a w hsz h hr⟩
 | succ fuel ih =>
  intro listed a w hsz h hc
  refine⟨done listed a w hsz h,fun i hi=>?_⟩
  obtain⟨h0,o,ho,hall⟩:=mem_ready.1 hi
  have hilt:i<ops.size:=(Array.getElem?_eq_some_iff.1 ho).1
  have hil:i<listed.size:=by omega
  have hl0:listed.getD i false=false:=by simpa [Array.getD,hil] using h0
  obtain⟨u,rfl,hI⟩:=h.inv
  have hp:∀ j,j<ops.size→pre ops i j=true→listed.getD j false=true:=by
   intro j hj hpj
   rcases pre_spec hpre hilt hj hpj with hd|⟨k,hk,hd,hkj⟩
   ·obtain⟨e,he,hb,rfl⟩:=(direct_of ho).1 hd
    exact hall e he hb
   ·obtain⟨e,he,hb,rfl⟩:=(direct_of ho).1 hd
    exact h.closed _ _ hk hj (hall e he hb) hkj
  have hs:=step (fun i=>listed.getD i false) i o ho hl0 hp h.closed u w hI
  refine wpOp_mono (fun a' w' hk=>?_) hs
  obtain⟨v,rfl,hI'⟩:=hk
  have hfun:(fun j=>(listed.setIfInBounds i true).getD j false)=(fun j=>j == i||listed.getD j false):=by
   funext j
   by_cases hji:j=i
   ·subst hji;simp [hil]
   ·rw [getD_set_ne false (Ne.symm hji)];simp [hji]
  refine ih _ _ _ (by simp [hsz]) ⟨?_,upd u i v,?_,?_⟩ ?_
  ·intro p q hpl hql hlp hpq
   by_cases hpi:i=p
   ·subst hpi;exact getD_set_true (hp q hql hpq)
   ·rw [getD_set_ne false hpi] at hlp
    exact getD_set_true (h.closed p q hpl hql hlp hpq)
  ·have:dstOf ops i=o.dst:=by simp [dstOf,ho]
   rw [fill_upd hap u a0 v i hilt ops.size hilt (Nat.le_refl _),this]
  ·rw [hfun];exact hI'
  ·have key:(List.range ops.size).countP (fun j=>!(listed.setIfInBounds i true).getD j false)<(List.range ops.size).countP (fun j=>!listed.getD j false):=by
    have hsplit:∀ (l:List Nat),l.Nodup→i ∈ l→l.countP (fun j=>!(listed.setIfInBounds i true).getD j false)+1=l.countP (fun j=>!listed.getD j false):=by
     intro l
     induction l with
     | nil=>intro _ h;cases h
     | cons x l ihl =>
      intro hnd hmem
      obtain⟨hx,hnd'⟩:=List.nodup_cons.1 hnd
      rw [List.countP_cons,List.countP_cons]
      by_cases hxi:x=i
      ·subst hxi
       have e1:l.countP (fun j=>!(listed.setIfInBounds x true).getD j false)=l.countP (fun j=>!listed.getD j false):=by
        apply List.countP_congr
        intro j hj
        have:x≠j:=fun e=>hx (e ▸ hj)
        rw [getD_set_ne false this]
       have e2:(listed.setIfInBounds x true).getD x false=true:=by simp [hil]
       simp only [e1,e2,hl0,Bool.not_true,Bool.not_false,if_true]
       simp
      ·have hm:i ∈ l:=by
        rcases List.mem_cons.1 hmem with h|h
        ·exact absurd h.symm hxi
        ·exact h
       have:=ihl hnd' hm
       rw [getD_set_ne false (Ne.symm hxi)]
       omega
    have:=hsplit (List.range ops.size) List.nodup_range (List.mem_range.2 hilt)
    omega
   omega
def RegAny(P:Program)(ops:Array Oper)(Q:Exit→Act→World→Prop)(a:Act)(w:World):Prop:=wpAny P .any ops Q ops.size (Array.replicate ops.size false) a { w with drawn:=w.drawn+1 }
def RegOps(P:Program)(ops:Array Oper)(Q:Exit→Act→World→Prop)(a:Act)(w:World):Prop:=wpOps P ops Q (List.range ops.size) a w
theorem wp_region_inv{a0:Act}{w0:World}(hpre:preB ops=true)(hap:apartB ops=true)(I:(Nat→Bool)→(Nat→Got)→World→Prop)(h0:I (fun _=>false) (start ops a0) w0.drew)(step:∀ (L:Nat→Bool) i o,ops[i]? = some o→L i=false→(∀ j,j<ops.size→pre ops i j=true→L j=true) →
   (∀ p q,p<ops.size→q<ops.size→L p=true→pre ops p q=true→L q=true)→∀ u w,I L u w →
   wpOp P ops Q i (fun a' w' => ∃ v:Got,a'=(fill ops u ops.size a0).put o.dst v.v∧I (fun j=>j == i||L j) (upd u i v) w') (fill ops u ops.size a0) w)(fin:∀ L u w,(∀ i,i<ops.size→L i=true)→I L u w→Q .normal (fill ops u ops.size a0) w):RegAny P ops Q a0 w0:=by
 have hrep:∀ i,(Array.replicate ops.size false).getD i false=false:=fun i=>by
  simp [Array.getD]
 have hfun:(fun i=>(Array.replicate ops.size false).getD i false)=fun _=>false:=funext hrep
 refine (wpAny_inv hpre hap I a0 step fin ops.size _ _ _ (by simp) ⟨?_,start ops a0,?_,?_⟩ ?_)
 ·intro i j _ _ h;rw [hrep] at h;cases h
 ·exact (fill_start a0 _).symm
 ·rw [hfun];exact h0
 ·have:=@List.countP_le_length Nat (fun i=>!(Array.replicate ops.size false).getD i false) (List.range ops.size)
  simp only [List.length_range] at this
  omega
theorem wpOps_inv(hpre:preB ops=true)(hap:apartB ops=true)(I:(Nat→Bool)→(Nat→Got)→World→Prop)(a0:Act)(step:∀ (L:Nat→Bool) i o,ops[i]? = some o→L i=false→(∀ j,j<ops.size→pre ops i j=true→L j=true) →
   (∀ p q,p<ops.size→q<ops.size→L p=true→pre ops p q=true→L q=true)→∀ u w,I L u w →
   wpOp P ops Q i (fun a' w' => ∃ v:Got,a'=(fill ops u ops.size a0).put o.dst v.v∧I (fun j=>j == i||L j) (upd u i v) w') (fill ops u ops.size a0) w)(fin:∀ L u w,(∀ i,i<ops.size→L i=true)→I L u w→Q .normal (fill ops u ops.size a0) w):∀ (k i:Nat) (u:Nat→Got) (w:World),i+k=ops.size→I (fun j=>decide (j<i)) u w→wpOps P ops Q (List.range' i k) (fill ops u ops.size a0) w:=by
 have before:∀ p q,p<ops.size→q<ops.size→pre ops p q=true→q<p:=by
  intro p
  induction p using Nat.strongRecOn with
  | _ p ih =>
   intro q hp hq h
   rcases pre_spec hpre hp hq h with hd|⟨k,hk,hd,hkj⟩
   ·obtain⟨o,ho⟩:∃ o,ops[p]? = some o:=⟨ops[p],by simp [hp]⟩
    obtain⟨e,he,hb,rfl⟩:=(direct_of ho).1 hd
    exact back_spec hpre ho he hb
   ·obtain⟨o,ho⟩:∃ o,ops[p]? = some o:=⟨ops[p],by simp [hp]⟩
    obtain⟨e,he,hb,rfl⟩:=(direct_of ho).1 hd
    have h1:=back_spec hpre ho he hb
    have:=ih _ h1 q hk hq hkj
    omega
 intro k
 induction k with
 | zero =>
  intro i u w hi h
  exact fin _ u w (fun j hj=>by simp;omega) h
 | succ k ih =>
  intro i u w hi h
  have hlt:i<ops.size:=by omega
  obtain⟨o,ho⟩:∃ o,ops[i]? = some o:=⟨ops[i],by simp [hlt]⟩
  rw [List.range'_succ,wpOps_cons]
  have hs:=step (fun j=>decide (j<i)) i o ho (by simp) (fun j hj hp=>by simpa using before i j hlt hj hp) (fun p q hp hq hl hpq=>by
   simp only [decide_eq_true_eq] at hl ⊢
   have:=before p q hp hq hpq
   omega) u w h
  refine wpOp_mono (fun a' w' hk=>?_) hs
  obtain⟨v,rfl,hI⟩:=hk
  have e:(fun j=>j == i||decide (j<i))=fun j=>decide (j<i+1):=by
   funext j
   rw [Bool.eq_iff_iff]
   simp
   omega
  rw [e] at hI
  have:dstOf ops i=o.dst:=by simp [dstOf,ho]
  rw [← this,← fill_upd hap u a0 v i hlt ops.size hlt (Nat.le_refl _)]
  exact ih (i+1) _ w' (by omega) hI
theorem wp_region_inv_seq{a0:Act}{w0:World}(hpre:preB ops=true)(hap:apartB ops=true)(I:(Nat→Bool)→(Nat→Got)→World→Prop)(h0:I (fun _=>false) (start ops a0) w0)(step:∀ (L:Nat→Bool) i o,ops[i]? = some o→L i=false→(∀ j,j<ops.size→pre ops i j=true→L j=true) →
   (∀ p q,p<ops.size→q<ops.size→L p=true→pre ops p q=true→L q=true)→∀ u w,I L u w →
   wpOp P ops Q i (fun a' w' => ∃ v:Got,a'=(fill ops u ops.size a0).put o.dst v.v∧I (fun j=>j == i||L j) (upd u i v) w') (fill ops u ops.size a0) w)(fin:∀ L u w,(∀ i,i<ops.size→L i=true)→I L u w→Q .normal (fill ops u ops.size a0) w):RegOps P ops Q a0 w0:=by
 have h:=wpOps_inv hpre hap I a0 step fin ops.size 0 (start ops a0) w0 (by omega) (by simpa using h0)
 rw [fill_start,← List.range_eq_range'] at h
 exact h
def fnT(T:TypeId):Bool:=T == 143
def BlT(T:TypeId):Bool:=T != 315&&T != 5 && !fnT T
def Loc(T:TypeId):Bool:=T != 212&&T != 210&&BlT T
def zeroV:Value→Bool
 | .bool b=>!b
 | .int _ n=>n == 0
 | .string s=>s.size == 0
 | .pointer none=>true
 | .slice none _ _=>true
 | .map none=>true
 | .nilFunc=>true
 | .nilIface=>true
 | _=>false
def Blank(w:World)(k:Nat):Prop:=∃ c T,w.heap[k]? = some (.cells c T (0,0))∧(c.all zeroV&&BlT T)=true
def Soft(w:World)(k:Nat):Prop:=∃ c T,w.heap[k]? = some (.cells c T (0,0))∧(T == 212||T == 210)=true
def Local(w:World)(k:Nat):Prop:=∃ c T fr,w.heap[k]? = some (.cells c T fr)∧Loc T=true
structure Grow (w w' : World):Prop where
 os:w'.os=w.os
 tape:w'.tape=w.tape
 output:w'.output=w.output
 size:w.heap.size≤w'.heap.size
 block:∀ k,k<w.heap.size→w'.heap[k]? = w.heap[k]? ∨ Soft w k∨Local w k
theorem Grow.refl(w:World):Grow w w:=⟨rfl,rfl,rfl,Nat.le_refl _,fun _ _=>.inl rfl⟩
theorem Blank.congr{w w': World}{k:Nat}(h:w'.heap[k]? = w.heap[k]?)(hb:Blank w' k):Blank w k:=by
 obtain⟨c,T,h1,h2⟩:=hb;exact⟨c,T,h ▸ h1,h2⟩
theorem Soft.congr{w w': World}{k:Nat}(h:w'.heap[k]? = w.heap[k]?)(hb:Soft w' k):Soft w k:=by
 obtain⟨c,T,h1,h2⟩:=hb;exact⟨c,T,h ▸ h1,h2⟩
theorem Blank.or{w:World}{k:Nat}(h:Blank w k):Local w k∨Soft w k:=by
 obtain⟨c,T,h1,h2⟩:=h
 simp only [Bool.and_eq_true] at h2
 by_cases hT:(T == 212||T == 210)=true
 ·exact .inr ⟨c,T,h1,hT⟩
 ·refine .inl ⟨c,T,_,h1,?_⟩
  simp only [Bool.or_eq_true,beq_iff_eq,not_or] at hT
  simp [Loc,hT.1,hT.2,h2.2]
theorem Local.congr{w w': World}{k:Nat}(h:w'.heap[k]? = w.heap[k]?)(hb:Local w' k):Local w k:=by
 obtain⟨c,T,fr,h1,h2⟩:=hb;exact⟨c,T,fr,h ▸ h1,h2⟩
theorem Grow.trans{a b c:World}(h:Grow a b)(g:Grow b c):Grow a c :=
 ⟨g.os.trans h.os,g.tape.trans h.tape,g.output.trans h.output,Nat.le_trans h.size g.size,fun k hk=>by
  rcases h.block k hk with h1|h1
  ·rcases g.block k (Nat.lt_of_lt_of_le hk h.size) with h2|h2|h2
   ·exact .inl (h2.trans h1)
   ·exact .inr (.inl (Soft.congr h1 h2))
   ·exact .inr (.inr (Local.congr h1 h2))
  ·exact .inr h1⟩
theorem Grow.below{w w': World}(h:RowKit.Below w.heap.size w w'):Grow w w' := ⟨h.os,h.tape,h.output,h.size,fun k hk=>.inl (h.block k hk)⟩
theorem Grow.drew(w:World):Grow w w.drew:=⟨rfl,rfl,rfl,Nat.le_refl _,fun _ _=>.inl rfl⟩
theorem Grow.alloc(w:World)(o:Obj):Grow w (w.alloc o):=⟨rfl,rfl,rfl,by simp,fun k hk=>.inl (RowKit.Below.heap_alloc _ _ _ hk)⟩
structure GrowS (S:Nat→Prop) (w w' : World):Prop where
 os:w'.os=w.os
 tape:w'.tape=w.tape
 output:w'.output=w.output
 size:w.heap.size≤w'.heap.size
 block:∀ k,k<w.heap.size→w'.heap[k]? = w.heap[k]? ∨ Local w k∨(Soft w k∧¬ S k)
theorem GrowS.refl(S:Nat→Prop)(w:World):GrowS S w w:=⟨rfl,rfl,rfl,Nat.le_refl _,fun _ _=>.inl rfl⟩
theorem GrowS.below{S:Nat→Prop}{w w': World}(h:RowKit.Below w.heap.size w w'):GrowS S w w' := ⟨h.os,h.tape,h.output,h.size,fun k hk=>.inl (h.block k hk)⟩
theorem GrowS.alloc(S:Nat→Prop)(w:World)(o:Obj):GrowS S w (w.alloc o):=⟨rfl,rfl,rfl,by simp,fun k hk=>.inl (RowKit.Below.heap_alloc _ _ _ hk)⟩
theorem GrowS.drew(S:Nat→Prop)(w:World):GrowS S w w.drew:=⟨rfl,rfl,rfl,Nat.le_refl _,fun _ _=>.inl rfl⟩
theorem GrowS.trans{S:Nat→Prop}{a b c:World}(h:GrowS S a b)(g:GrowS S b c):GrowS S a c :=
 ⟨g.os.trans h.os,g.tape.trans h.tape,g.output.trans h.output,Nat.le_trans h.size g.size,fun k hk=>by
  rcases h.block k hk with h1|h1
  ·rcases g.block k (Nat.lt_of_lt_of_le hk h.size) with h2|h2|h2
   ·exact .inl (h2.trans h1)
   ·exact .inr (.inl (h2.congr h1))
   ·exact .inr (.inr ⟨h2.1.congr h1,h2.2⟩)
  ·exact .inr h1⟩
structure Chg (B0:Nat) (R0:Nat→Prop) (olds:List (Nat×Nat)) (keeps kb near:List Nat) (u:Nat→Got) (w w' : World):Prop where
 os:w'.os=w.os
 tape:w'.tape=w.tape
 output:w'.output=w.output
 size:w.heap.size≤w'.heap.size
 block:∀ k,k<w.heap.size→w'.heap[k]? = w.heap[k]? ∨ (B0≤k∧Blank w k∧(∀ m,m ∈ keeps→(u m).v≠.pointer (some ⟨k,0,none⟩))∧∀ j,j ∈ near→k<(u j).lo∨(u j).hi≤k)∨(k<B0∧(Local w k∨(Soft w k∧¬ R0 k))∧∃ x i:Nat,x ∉ kb∧olds[x]? = some (k,i))
structure SP (B0:Nat) (R0:Nat→Prop) (olds:List (Nat×Nat)) where
 p:(Nat→Got)→World→Prop
 uses:List Nat
 keeps:List Nat
 kb:List Nat
 near:List Nat
 loc:∀ u u' w,(∀ j,j ∈ uses→u j=u' j)→p u w→p u' w
 stab:∀ u w w', Chg B0 R0 olds keeps kb near u w w'→p u w→p u w'
inductive Pl (B0:Nat) (R0:Nat→Prop) (olds:List (Nat×Nat)) where
 | alloc (c:Array Value) (T:TypeId)
 | op (own:Option Nat) (s:SP B0 R0 olds)
def Pl.own{B0 R0 olds}:Pl B0 R0 olds→Option Nat|.op m _=>m|.alloc _ _=>none
def Pl.isAlloc{B0 R0 olds}:Pl B0 R0 olds→Bool|.alloc ..=>true|_=>false
def Pl.fact{B0 R0 olds}(i:Nat)(u:Nat→Got)(w:World):Pl B0 R0 olds→Prop
 | .alloc _ _=>∃ b,u i=⟨.pointer (some ⟨b,0,none⟩),b,b+1⟩∧B0≤b∧b<w.heap.size
 | .op _ s=>s.p u w
def Pl.blank{B0 R0 olds}(i:Nat)(u:Nat→Got)(w:World):Pl B0 R0 olds→Prop
 | .alloc c T=>∃ b,u i=⟨.pointer (some ⟨b,0,none⟩),b,b+1⟩∧B0≤b∧w.heap[b]? = some (.cells c T (0,0))
 | .op _ _=>False
def okB{B0 R0 olds}(ops:Array Oper)(ws:List Nat)(plan:List (Pl B0 R0 olds)):Bool :=
 plan.length == ops.size&&preB ops&&apartB ops&&(List.range ops.size).all fun i=>match plan[i]? with
  | none=>false
  | some (.alloc c T)=>((List.range ops.size).all fun i' => ((plan[i']?).bind (·.own)) != some i)||(c.all zeroV&&BlT T)
  | some (.op own s)=>(s.uses.all fun j=>j == i||pre ops i j) &&
    (s.keeps.all fun m=>((plan[m]?).map (·.isAlloc)).getD false&&pre ops i m&&(List.range ops.size).all fun i' => ((plan[i']?).bind (·.own)) != some m||i' == i||pre ops i i') &&
    (s.near.all fun j=>(j == i||pre ops i j)&&(plan[j]?).isSome&&(!((plan[j]?).map (·.isAlloc)).getD true||(List.range ops.size).all fun i' => ((plan[i']?).bind (·.own)) != some j||i' == i||pre ops i i')) &&
    (s.kb.all fun x=>match ws[x]? with|some i' => i' == i||pre ops i i'|none=>false) &&
    (match own with|none=>true|some m=>((plan[m]?).map (·.isAlloc)).getD false&&pre ops i m&&(List.range ops.size).all fun i' => ((plan[i']?).bind (·.own)) != some m||i' == i)
def dstIdx(ops:Array Oper)(t:Tmp):Option Nat:=(List.range ops.size).find? fun i=>dstOf ops i == some t
def slot(ops:Array Oper)(u:Nat→Got)(a0:Act)(t:Tmp):Value:=match dstIdx ops t with|some j=>(u j).v|none=>a0.tmps.getD t undef
def inB(ops:Array Oper)(a0:Act):Bool:=(List.range ops.size).all fun i=>match dstOf ops i with|some d=>decide (d<a0.tmps.size)|none=>true
structure Env (ops:Array Oper) (a0:Act) (u:Nat→Got) (ρ:Operand→Value):Prop where
 const:∀ v,ρ (.const v)=v
 func:∀ f,ρ (.func f)=.func (.func f) #[] #[]
 global:∀ g,ρ (.global g)=.pointer (some ⟨g,0,none⟩)
 tmp:∀ t,ρ (.tmp t)=slot ops u a0 t
theorem fill_size(u:Nat→Got)(a:Act):∀ n,(fill ops u n a).tmps.size=a.tmps.size
 | 0=>rfl
 | n+1=>by
  simp only [fill]
  cases dstOf ops n with
  | none=>exact fill_size u a n
  | some d=>simpa [Act.put] using fill_size u a n
theorem fill_none(u:Nat→Got)(a:Act)(t:Tmp):∀ n,(∀ i,i<n→dstOf ops i≠some t)→(fill ops u n a).tmps.getD t undef=a.tmps.getD t undef
 | 0,_=>rfl
 | n+1,h=>by
  simp only [fill]
  rw [← fill_none u a t n (fun i hi=>h i (by omega))]
  cases hd:dstOf ops n with
  | none=>rfl
  | some d =>
   have hne:d≠t:=fun e=>h n (by omega) (by rw [hd,e])
   simp [Act.put,Array.getElem?_setIfInBounds_ne hne]
theorem fill_some(hap:apartB ops=true)(u:Nat→Got)(a:Act)(hin:inB ops a=true)(t:Tmp)(i:Nat)(hi:dstOf ops i=some t)(hlt:i<ops.size):∀ n,i<n→n≤ops.size→(fill ops u n a).tmps.getD t undef=(u i).v
 | 0,h,_=>by omega
 | n+1,h,hn=>by
  simp only [fill]
  rcases Nat.lt_or_ge i n with hl|hg
  ·have ih:=fill_some hap u a hin t i hi hlt n hl (by omega)
   cases hd:dstOf ops n with
   | none=>exact ih
   | some d =>
    have hne:d≠t:=fun e=>apart_spec hap (by omega) hl hd (by rw [hi,e])
    simpa [Act.put,Array.getElem?_setIfInBounds_ne hne] using ih
  ·have e:i=n:=by omega
   subst e
   have h1:=all_range hin hlt
   simp only [hi,decide_eq_true_eq] at h1
   have h2:=fill_size (ops:=ops) u a i
   simp [hi,Act.put,h2,h1]
theorem env_fill(hap:apartB ops=true)(u:Nat→Got)(a0:Act)(hin:inB ops a0=true):Env ops a0 u (fill ops u ops.size a0).eval:=by
 refine⟨fun _=>rfl,fun _=>rfl,fun _=>rfl,fun t=>?_⟩
 show (fill ops u ops.size a0).tmps.getD t undef=slot ops u a0 t
 unfold slot
 cases h:dstIdx ops t with
 | none =>
  refine fill_none u a0 t _ fun i hi he=>?_
  have:=List.find?_eq_none.1 h i (List.mem_range.2 hi)
  simp [he] at this
 | some j =>
  have h1:=List.find?_some h
  have h2:=List.mem_range.1 (List.mem_of_find?_eq_some h)
  exact fill_some hap u a0 hin t j (by simpa using h1) h2 _ h2 (Nat.le_refl _)
structure Base (B0:Nat) (R0:Nat→Prop) (olds:List (Nat×Nat)) (w0 w:World):Prop where
 grow:GrowS (fun k=>R0 k∧k<B0) w0 w
 block:∀ k,k<B0→(∀ (x i:Nat),olds[x]? ≠ some (k,i))→w.heap[k]? = w0.heap[k]?
structure Does (R0:Nat→Prop) (olds:List (Nat×Nat)) (i:Nat) (own:Option Nat) (u:Nat→Got) (w w' : World):Prop where
 os:w'.os=w.os
 tape:w'.tape=w.tape
 output:w'.output=w.output
 size:w.heap.size≤w'.heap.size
 block:∀ k,k<w.heap.size→w'.heap[k]? = w.heap[k]? ∨ (∃ m,own=some m∧(u m).v=.pointer (some ⟨k,0,none⟩))∨((∃ x:Nat,olds[x]? = some (k,i))∧(Local w k∨(Soft w k∧¬ R0 k)))
def StepOK(P:Program)(ops:Array Oper)(B0:Nat)(R0:Nat→Prop)(olds:List (Nat×Nat))(a0:Act)(w0:World)(plan:List (Pl B0 R0 olds))(i:Nat)(pl:Pl B0 R0 olds):Prop :=
  ∀ o,ops[i]? = some o→∀ u w ρ,Env ops a0 u ρ→Base B0 R0 olds w0 w→(∀ (x k i' : Nat),olds[x]? = some (k,i')→i'=i∨pre ops i' i=true→w.heap[k]? = w0.heap[k]?) →
    (∀ (j:Nat) (p:Pl B0 R0 olds),plan[j]? = some p→pre ops i j=true→p.fact j u w) →
    (∀ (m:Nat) (p:Pl B0 R0 olds),pl.own=some m→plan[m]? = some p→p.blank m u w) →
    match pl with
    | .alloc c T=>o.guard=none∧(execOp ρ o).run P w=.ok (.value (.pointer (some ⟨w.heap.size,0,none⟩))) (w.alloc (.cells c T (0,0)))
    | .op own s =>
      (Region.wanted o (yielded ops (fill ops u ops.size a0).tmps)=false∧s.p (upd u i ⟨undef,w.heap.size,w.heap.size⟩) w) ∨
      (Region.wanted o (yielded ops (fill ops u ops.size a0).tmps)=true ∧
        ((∃ v w', (execOp ρ o).run P w=.ok (.value v) w'∧s.p (upd u i ⟨v,w.heap.size,w'.heap.size⟩) w'∧Does R0 olds i own u w w') ∨
         (∃ w', (execOp ρ o).run P w=.ok .skip w'∧s.p (upd u i ⟨undef,w.heap.size,w'.heap.size⟩) w'∧Does R0 olds i own u w w') ∨
         (∃ f args,(execOp ρ o).run P w=.ok (.enter f args) w∧Calls P f args w fun e w' => ∃ v,e=.returned v∧s.p (upd u i ⟨v,w.heap.size,w'.heap.size⟩) w'∧Does R0 olds i own u w w')))
def Todo(P:Program)(ops:Array Oper)(Q:Exit→Act→World→Prop)(B0:Nat)(R0:Nat→Prop)(olds:List (Nat×Nat))(ws:List Nat)(a0:Act)(w0:World):Nat→List (Pl B0 R0 olds)→Prop
 | 0,plan=>okB ops ws plan=true∧∀ u w,Base B0 R0 olds w0 w→(∀ (j:Nat) (p:Pl B0 R0 olds),plan[j]? = some p→p.fact j u w) →
   (∀ (m:Nat) (p:Pl B0 R0 olds),plan[m]? = some p→p.isAlloc=true→(∀ (i:Nat) (q:Pl B0 R0 olds),plan[i]? = some q→q.own≠some m)→p.blank m u w) →
   (∀ (i j:Nat) (p q:Pl B0 R0 olds),plan[i]? = some p→plan[j]? = some q→p.isAlloc=true→q.isAlloc=true→i≠j→(u i).v≠(u j).v)→(∀ i,i<plan.length→B0≤(u i).lo)→Q .normal (fill ops u ops.size a0) w
 | k+1,plan=>∃ pl,StepOK P ops B0 R0 olds a0 w0 plan plan.length pl∧Todo P ops Q B0 R0 olds ws a0 w0 k (plan++[pl])
theorem todo_full{B0 R0 olds ws a0 w0}:∀ k (plan:List (Pl B0 R0 olds)),Todo P ops Q B0 R0 olds ws a0 w0 k plan→∃ full,(∃ more,full=plan++more∧more.length=k) ∧
  (∀ i pl,plan.length≤i→full[i]? = some pl→StepOK P ops B0 R0 olds a0 w0 (full.take i) i pl)∧Todo P ops Q B0 R0 olds ws a0 w0 0 full
 | 0,plan,h=>⟨plan,⟨[],by simp⟩,fun i pl hi hp=>by simp [List.getElem?_eq_none hi] at hp,h⟩
 | k+1,plan,⟨pl,h1,h2⟩=>by
  obtain⟨full,⟨more,rfl,hm⟩,hs,h0⟩:=todo_full k _ h2
  refine⟨_,⟨pl::more,by simp,by simp [hm]⟩,?_,h0⟩
  intro i q hi hq
  rcases Nat.lt_or_ge plan.length i with hlt|hge
  ·exact hs i q (by simp;omega) hq
  ·have e:i=plan.length:=by omega
   subst e
   have h3:q=pl:=by simpa using hq.symm
   subst h3
   simpa using h1
structure Inv {B0 R0 olds} (w0:World) (plan:List (Pl B0 R0 olds)) (L:Nat→Bool) (u:Nat→Got) (w:World):Prop where
 base:Base B0 R0 olds w0 w
 old:∀ (x k i:Nat),olds[x]? = some (k,i)→L i=false→w.heap[k]? = w0.heap[k]?
 fact:∀ (i:Nat) (p:Pl B0 R0 olds),plan[i]? = some p→L i=true→p.fact i u w
 blank:∀ (m:Nat) (p:Pl B0 R0 olds),plan[m]? = some p→L m=true→p.isAlloc=true→(∀ (i:Nat) (q:Pl B0 R0 olds),plan[i]? = some q→q.own=some m→L i=false)→p.blank m u w
 span:∀ i,i<plan.length→L i=true→B0≤(u i).lo∧(u i).lo≤(u i).hi∧(u i).hi≤w.heap.size
 apart:∀ i j,i<plan.length→j<plan.length→L i=true→L j=true→i≠j→(u i).hi≤(u j).lo∨(u j).hi≤(u i).lo
structure OkAt {B0 R0 olds} (ops:Array Oper) (ws:List Nat) (plan:List (Pl B0 R0 olds)) (i:Nat) (own:Option Nat) (s:SP B0 R0 olds):Prop where
 uses:∀ j,j ∈ s.uses→j=i∨pre ops i j=true
 keeps:∀ m,m ∈ s.keeps→(∃ p,plan[m]? = some p∧p.isAlloc=true)∧pre ops i m=true∧∀ (i' : Nat) (q:Pl B0 R0 olds),plan[i']? = some q→q.own=some m→i'=i∨pre ops i i'=true
 near:∀ j,j ∈ s.near→(j=i∨pre ops i j=true)∧∃ p,plan[j]? = some p∧(p.isAlloc=false∨∀ (i' : Nat) (q:Pl B0 R0 olds),plan[i']? = some q→q.own=some j→i'=i∨pre ops i i'=true)
 kb:∀ x,x ∈ s.kb→∃ i', ws[x]? = some i'∧(i'=i∨pre ops i i'=true)
 own:∀ m,own=some m→(∃ p,plan[m]? = some p∧p.isAlloc=true)∧pre ops i m=true∧∀ (i' : Nat) (q:Pl B0 R0 olds),plan[i']? = some q→q.own=some m→i'=i
theorem isAlloc_of{B0 R0 olds}{plan:List (Pl B0 R0 olds)}{m:Nat}(h:((plan[m]?).map (·.isAlloc)).getD false=true):∃ p,plan[m]? = some p∧p.isAlloc=true:=by
 cases hp:plan[m]? with
 | none=>simp [hp] at h
 | some p=>exact⟨p,rfl,by simpa [hp] using h⟩
theorem ok_len{B0 R0 olds ws}{plan:List (Pl B0 R0 olds)}(h:okB ops ws plan=true):plan.length=ops.size∧preB ops=true∧apartB ops=true:=by
 unfold okB at h
 simp only [Bool.and_eq_true,beq_iff_eq] at h
 exact⟨h.1.1.1,h.1.1.2,h.1.2⟩
theorem ok_alloc{B0 R0 olds ws}{plan:List (Pl B0 R0 olds)}(h:okB ops ws plan=true){i:Nat}{c:Array Value}{T:TypeId}(hp:plan[i]? = some (.alloc c T)){i': Nat}{q:Pl B0 R0 olds}(hq:plan[i']? = some q)(ho:q.own=some i):(c.all zeroV&&BlT T)=true:=by
 have hl:=ok_len h
 have hi:i<ops.size:=by rw [← hl.1];exact (List.getElem?_eq_some_iff.1 hp).1
 unfold okB at h
 simp only [Bool.and_eq_true] at h
 have:=all_range h.2 hi
 simp only [hp,Bool.or_eq_true] at this
 rcases this.symm with this|this
 ·exact this
 ·have hi' : i'<ops.size:=by rw [← hl.1];exact (List.getElem?_eq_some_iff.1 hq).1
  have:=all_range this hi'
  simp [hq,ho] at this
theorem ok_at{B0 R0 olds ws}{plan:List (Pl B0 R0 olds)}(h:okB ops ws plan=true){i:Nat}{own:Option Nat}{s:SP B0 R0 olds}(hp:plan[i]? = some (.op own s)):OkAt ops ws plan i own s:=by
 have hl:=ok_len h
 have lt:∀ {j:Nat} {q:Pl B0 R0 olds},plan[j]? = some q→j<ops.size:=fun hq=>by rw [← hl.1];exact (List.getElem?_eq_some_iff.1 hq).1
 have hi:=lt hp
 unfold okB at h
 simp only [Bool.and_eq_true] at h
 have h1:=all_range h.2 hi
 simp only [hp,Bool.and_eq_true] at h1
 obtain⟨⟨⟨⟨h2,h3⟩,h7⟩,h4⟩,h5⟩:=h1
 refine⟨fun j hj=>?_,fun m hm=>?_,fun j hj=>?_,fun x hx=>?_,fun m hm=>?_⟩
 ·simpa using List.all_eq_true.1 h2 j hj
 ·have:=List.all_eq_true.1 h3 m hm
  simp only [Bool.and_eq_true] at this
  refine⟨isAlloc_of this.1.1,this.1.2,fun i' q hq ho=>?_⟩
  have h6:=all_range this.2 (lt hq)
  simpa [hq,ho] using h6
 ·have:=List.all_eq_true.1 h7 j hj
  simp only [Bool.and_eq_true] at this
  refine⟨by simpa using this.1.1,?_⟩
  cases hp' : plan[j]? with
  | none=>simp [hp'] at this
  | some p =>
   refine⟨p,rfl,?_⟩
   have h9:=this.2
   simp only [hp', Option.map_some,Option.getD_some,Bool.or_eq_true,Bool.not_eq_true'] at h9
   refine h9.imp id fun h9 i' q hq ho=>?_
   have h6:=all_range h9 (lt hq)
   simpa [hq,ho] using h6
 ·have:=List.all_eq_true.1 h4 x hx
  cases hw:ws[x]? with
  | none=>simp [hw] at this
  | some i' => exact⟨i', rfl,by simpa [hw] using this⟩
 ·subst hm
  simp only [Bool.and_eq_true] at h5
  refine⟨isAlloc_of h5.1.1,h5.1.2,fun i' q hq ho=>?_⟩
  have h6:=all_range h5.2 (lt hq)
  simpa [hq,ho] using h6
theorem inv_step{B0:Nat}{R0:Nat→Prop}{olds:List (Nat×Nat)}{ws:List Nat}{w0:World}{plan:List (Pl B0 R0 olds)}(hok:okB ops ws plan=true)(hws:∀ (x k i:Nat),olds[x]? = some (k,i)→ws[x]? = some i)(holds:∀ (x k i:Nat),olds[x]? = some (k,i)→k<B0)(hB0:B0≤w0.heap.size)(hinj:∀ (x y k i j:Nat),olds[x]? = some (k,i)→olds[y]? = some (k,j)→x=y){L:Nat→Bool}{u:Nat→Got}{w w': World}{i:Nat}{pl:Pl B0 R0 olds}(hpl:plan[i]? = some pl)(hLi:L i=false)(hcl:∀ p q,p<ops.size→q<ops.size→L p=true→pre ops p q=true→L q=true)(hpi:∀ j,j<ops.size→pre ops i j=true→L j=true)(hB:B0≤w.heap.size)(inv:Inv w0 plan L u w)(v:Value)(hd:Does R0 olds i pl.own u w w')(hf:pl.fact i (upd u i ⟨v,w.heap.size,w'.heap.size⟩) w')(hb:pl.isAlloc=true→pl.blank i (upd u i ⟨v,w.heap.size,w'.heap.size⟩) w'):Inv w0 plan (fun j=>j == i||L j) (upd u i ⟨v,w.heap.size,w'.heap.size⟩) w' := by
 have hl:=ok_len hok
 have lt:∀ {j:Nat} {q:Pl B0 R0 olds},plan[j]? = some q→j<ops.size:=fun hq=>by rw [← hl.1];exact (List.getElem?_eq_some_iff.1 hq).1
 have ltp:∀ {j:Nat} {q:Pl B0 R0 olds},plan[j]? = some q→j<plan.length:=fun hq=>(List.getElem?_eq_some_iff.1 hq).1
 have hne:∀ {j:Nat},L j=true→j≠i:=fun hj e=>by subst e;rw [hLi] at hj;cases hj
 have own:∀ m,pl.own=some m→L m=true∧∃ k,(u m)=⟨.pointer (some ⟨k,0,none⟩),k,k+1⟩∧B0≤k∧Blank w k∧∃ p,plan[m]? = some p∧p.isAlloc=true:=by
  intro m hm
  cases pl with
  | alloc c T=>cases hm
  | op o1 s =>
   have ha:=(ok_at hok hpl).own m hm
   obtain⟨⟨p,hp,hpa⟩,hpre,huniq⟩:=ha
   have hLm:=hpi m (lt hp) hpre
   refine⟨hLm,?_⟩
   have hbl:=inv.blank m p hp hLm hpa (fun i' q hq ho=>by rw [huniq i' q hq ho];exact hLi)
   cases p with
   | op _ _=>cases hpa
   | alloc c T =>
    obtain⟨b,h1,h2,h3⟩:=hbl
    exact⟨b,h1,h2,⟨c,T,h3,ok_alloc hok hp hpl hm⟩,_,hp,rfl⟩
 have keepFact:∀ (j:Nat) (p:Pl B0 R0 olds),plan[j]? = some p→L j=true→p.fact j (upd u i ⟨v,w.heap.size,w'.heap.size⟩) w' := by
  intro j p hp hLj
  have h0:=inv.fact j p hp hLj
  cases p with
  | alloc c T =>
   obtain⟨b,h1,h2,h3⟩:=h0
   exact⟨b,by rw [upd_other u _ (hne hLj)];exact h1,h2,Nat.lt_of_lt_of_le h3 hd.size⟩
  | op o1 s =>
   have ha:=ok_at hok hp
   have nb:∀ i', i'=j∨pre ops j i'=true→i'≠i:=by
    rintro i' (rfl|h) e
    ·exact hne hLj e
    ·subst e
     have:=hcl j i' (lt hp) (lt hpl) hLj h
     rw [hLi] at this
     cases this
   show s.p (upd u i ⟨v,w.heap.size,w'.heap.size⟩) w'
   refine s.loc u _ w' (fun j' hj' => (upd_other u _ (nb j' (ha.uses j' hj'))).symm) ?_
   refine s.stab u w w' ⟨hd.os,hd.tape,hd.output,hd.size,fun k hk=>?_⟩ h0
   rcases hd.block k hk with h|⟨m,hm,hum⟩|⟨⟨x,hxk⟩,hlo⟩
   ·exact .inl h
   ·refine .inr (.inl ?_)
    obtain⟨hLm,b,h1,h2,h3,pm,hpm,hpma⟩:=own m hm
    have e:b=k:=by rw [h1] at hum;cases hum;rfl
    subst e
    refine⟨h2,h3,fun m' hm' => ?_,fun j' hj' => ?_⟩
    ·obtain⟨⟨p', hp', hpa'⟩,hpre', hcons⟩:=ha.keeps m' hm'
     have hmm:m'≠m:=fun e=>by
      subst e
      exact nb i (hcons i pl hpl hm) rfl
     have hLm' := hcl j m' (lt hp) (lt hp') hLj hpre'
     have hap:=inv.apart m' m (ltp hp') (ltp hpm) hLm' hLm hmm
     have hf' := inv.fact m' p' hp' hLm'
     cases p' with
     | op _ _=>cases hpa'
     | alloc c' T' =>
      obtain⟨b', g1,_,_⟩:=hf'
      rw [g1] at hap ⊢
      rw [h1] at hap
      simp only [ne_eq,Value.pointer.injEq,Option.some.injEq,Addr.mk.injEq,and_true]
      simp only at hap
      omega
    ·obtain⟨hor,q,hq,hqa⟩:=ha.near j' hj'
     have hLj' : L j'=true:=by
      rcases hor with rfl|h
      ·exact hLj
      ·exact hcl j j' (lt hp) (lt hq) hLj h
     have hjm:j'≠m:=fun e=>by
      subst e
      rw [hpm] at hq
      cases hq
      rcases hqa with hqa|hqa
      ·rw [hqa] at hpma
       cases hpma
      ·exact nb i (hqa i pl hpl hm) rfl
     have hap:=inv.apart j' m (ltp hq) (ltp hpm) hLj' hLm hjm
     rw [h1] at hap
     simp only at hap
     omega
   ·refine .inr (.inr ⟨holds x k i hxk,hlo,x,i,fun hin=>?_,hxk⟩)
    obtain⟨i', hi', hor⟩:=ha.kb x hin
    have e:i'=i:=by rw [hws x k i hxk] at hi';exact (Option.some.inj hi').symm
    exact nb i' hor e
 refine⟨⟨?_,?_⟩,?_,?_,?_,?_,?_⟩
 ·refine inv.base.grow.trans ⟨hd.os,hd.tape,hd.output,hd.size,fun k hk=>?_⟩
  rcases hd.block k hk with h|⟨m,hm,hum⟩|⟨_,hlo⟩
  ·exact .inl h
  ·obtain⟨_,b,h1,h2,h3,_⟩:=own m hm
   have e:b=k:=by rw [h1] at hum;cases hum;rfl
   subst e
   rcases h3.or with h4|h4
   ·exact .inr (.inl h4)
   ·exact .inr (.inr ⟨h4,fun h=>by omega⟩)
  ·rcases hlo with h|⟨h,h'⟩
   ·exact .inr (.inl h)
   ·exact .inr (.inr ⟨h,fun hh=>h' hh.1⟩)
 ·intro k hk hno
  rcases hd.block k (Nat.lt_of_lt_of_le hk hB) with h|⟨m,hm,hum⟩|⟨⟨x,hxk⟩,_⟩
  ·exact h.trans (inv.base.block k hk hno)
  ·obtain⟨_,b,h1,h2,_⟩:=own m hm
   have e:b=k:=by rw [h1] at hum;cases hum;rfl
   omega
  ·exact absurd hxk (hno x i)
 ·intro x k j hxk hLj
  simp only [Bool.or_eq_false_iff,beq_eq_false_iff_ne] at hLj
  have hk:=holds x k j hxk
  rcases hd.block k (Nat.lt_of_lt_of_le hk hB) with h|⟨m,hm,hum⟩|⟨⟨y,hyk⟩,_⟩
  ·exact h.trans (inv.old x k j hxk hLj.2)
  ·obtain⟨_,b,h1,h2,_⟩:=own m hm
   have e:b=k:=by rw [h1] at hum;cases hum;rfl
   omega
  ·have exy:=hinj x y k j i hxk hyk
   subst exy
   rw [hxk] at hyk
   have:j=i:=by simpa using hyk
   exact absurd this hLj.1
 ·intro j p hp hLj
  by_cases hji:j=i
  ·subst hji
   have:p=pl:=by rw [hpl] at hp;exact (Option.some.inj hp).symm
   subst this;exact hf
  ·exact keepFact j p hp (by simpa [hji] using hLj)
 ·intro m p hp hLm hpa hcons
  by_cases hmi:m=i
  ·subst hmi
   have:p=pl:=by rw [hpl] at hp;exact (Option.some.inj hp).symm
   subst this;exact hb hpa
  ·have hLm' : L m=true:=by simpa [hmi] using hLm
   have h0:=inv.blank m p hp hLm' hpa (fun i' q hq ho=>by
    have:=hcons i' q hq ho
    simp only [Bool.or_eq_false_iff] at this
    exact this.2)
   cases p with
   | op _ _=>cases hpa
   | alloc c T =>
    obtain⟨b,h1,h2,h3⟩:=h0
    refine⟨b,by rw [upd_other u _ hmi];exact h1,h2,?_⟩
    have hlt:b<w.heap.size:=by
     rcases Nat.lt_or_ge b w.heap.size with h|h
     ·exact h
     ·rw [Array.getElem?_eq_none h] at h3;cases h3
    rcases hd.block b hlt with h|⟨m', hm', hum'⟩|⟨⟨x,hxk⟩,_⟩
    ·rw [h];exact h3
    ·exfalso
     obtain⟨hLm2,b', g1,g2,g3,pm,hpm,hpma⟩:=own m' hm'
     have e:b'=b:=by rw [g1] at hum';simpa using hum'
     subst e
     have hne' : m'≠m:=fun e=>by
      subst e
      have:=hcons i pl hpl hm'
      simp at this
     have hap:=inv.apart m' m (ltp hpm) (ltp hp) hLm2 hLm' hne'
     rw [g1,h1] at hap
     simp only at hap
     omega
    ·have:=holds x b i hxk;omega
 ·intro j hj hLj
  by_cases hji:j=i
  ·subst hji
   rw [upd_same]
   exact⟨hB,hd.size,Nat.le_refl _⟩
  ·rw [upd_other u _ hji]
   obtain⟨h1,h2,h3⟩:=inv.span j hj (by simpa [hji] using hLj)
   exact⟨h1,h2,Nat.le_trans h3 hd.size⟩
 ·intro j k hj hk hLj hLk hjk
  by_cases hji:j=i
  ·subst hji
   have hki:k≠j:=Ne.symm hjk
   rw [upd_same,upd_other u _ hki]
   exact .inr (inv.span k hk (by simpa [hki] using hLk)).2.2
  ·by_cases hki:k=i
   ·subst hki
    rw [upd_same,upd_other u _ hji]
    exact .inl (inv.span j hj (by simpa [hji] using hLj)).2.2
   ·rw [upd_other u _ hji,upd_other u _ hki]
    exact inv.apart j k hj hk (by simpa [hji] using hLj) (by simpa [hki] using hLk) hjk
theorem plan_step1{a0:Act}{w0:World}{R0:Nat→Prop}{olds:List (Nat×Nat)}{ws:List Nat}{plan:List (Pl w0.heap.size R0 olds)}(hok:okB ops ws plan=true)(hws:∀ (x k i:Nat),olds[x]? = some (k,i)→ws[x]? = some i)(holds:∀ (x k i:Nat),olds[x]? = some (k,i)→k<w0.heap.size)(hinj:∀ (x y k i j:Nat),olds[x]? = some (k,i)→olds[y]? = some (k,j)→x=y)(hin:inB ops a0=true)(L:Nat→Bool)(i:Nat)(hs:∀ (pl:Pl w0.heap.size R0 olds),plan[i]? = some pl→StepOK P ops w0.heap.size R0 olds a0 w0 (plan.take i) i pl)(o:Oper)(ho:ops[i]? = some o)(hLi:L i=false)(hpi:∀ j,j<ops.size→pre ops i j=true→L j=true)(hcl:∀ p q,p<ops.size→q<ops.size→L p=true→pre ops p q=true→L q=true)(u:Nat→Got)(w:World)(inv:Inv w0 plan L u w):wpOp P ops Q i (fun a' w' => ∃ v:Got,a'=(fill ops u ops.size a0).put o.dst v.v∧Inv w0 plan (fun j=>j == i||L j) (upd u i v) w') (fill ops u ops.size a0) w:=by
 have hl:=ok_len hok
 have hi:i<ops.size:=(Array.getElem?_eq_some_iff.1 ho).1
 obtain⟨pl,hpl⟩:∃ pl,plan[i]? = some pl:=⟨plan[i]'(by omega),by simp⟩
 have lt:∀ {j:Nat} {q:Pl w0.heap.size R0 olds},plan[j]? = some q→j<ops.size:=fun hq=>by rw [← hl.1];exact (List.getElem?_eq_some_iff.1 hq).1
 have tk:∀ {j:Nat} {q:Pl w0.heap.size R0 olds},(plan.take i)[j]? = some q→plan[j]? = some q:=by
  intro j q hq
  rw [List.getElem?_take] at hq
  split at hq
  ·exact hq
  ·cases hq
 have unl:∀ i', i'=i∨pre ops i' i=true→i'<ops.size→L i'=false:=by
  rintro i' (rfl|h) hlt
  ·exact hLi
  ·cases hL:L i' with
   | false=>rfl
   | true=>have:=hcl i' i hlt hi hL h;rw [hLi] at this;cases this
 have preLt:∀ i', pre ops i' i=true→i'<ops.size:=by
  intro i' h
  rcases Nat.lt_or_ge i' ops.size with h1|h1
  ·exact h1
  ·exfalso
   have hsz:(Region.before ops).size≤ops.size:=by
    unfold Region.before
    have:∀ (l:List Oper) (acc:Array Nat),(l.foldl (fun acc o=>acc.push (o.after.foldl (fun s e=>if Region.binds .any e then s ||| 2^e.on ||| acc.getD e.on 0 else s) 0)) acc).size=acc.size+l.length:=by
     intro l
     induction l with
     | nil=>intro acc;simp
     | cons x l ih=>intro acc;rw [List.foldl_cons,ih];simp;omega
    rw [← Array.foldl_toList,this]
    simp
   unfold pre at h
   have:(Region.before ops).getD i' 0=0:=by
    simp [Array.getD,Nat.not_lt.2 (Nat.le_trans hsz h1)]
   rw [this] at h
   simp at h
 have st:=hs pl hpl o ho u w _ (env_fill hl.2.2 u a0 hin) inv.base (fun x k i' hx hor=>inv.old x k i' hx (unl i' hor (by rcases hor with rfl|h;exact hi;exact preLt i' h)))
  (fun j p hp hpre=>inv.fact j p (tk hp) (hpi j (lt (tk hp)) hpre)) (fun m p hmo hp=>by
  cases pl with
  | alloc c T=>cases hmo
  | op o1 s =>
   obtain⟨⟨p', hp', hpa⟩,hpre,huniq⟩:=(ok_at hok hpl).own m hmo
   have hp2:=tk hp
   have e:p=p' := by rw [hp'] at hp2;exact (Option.some.inj hp2).symm
   subst e
   exact inv.blank m p hp' (hpi m (lt hp') hpre) hpa (fun i' q hq ho=>by rw [huniq i' q hq ho];exact hLi))
 have hgo:=@inv_step ops _ R0 olds ws w0 plan hok hws holds (Nat.le_refl _) hinj L u w
 have hB:=inv.base.grow.size
 cases pl with
 | alloc c T =>
  obtain⟨hg,hrun⟩:=st
  refine wpOp_step ho fun K hK=>?_
  have hw:Region.wanted o (yielded ops (fill ops u ops.size a0).tmps)=true:=by simp [Region.wanted,hg]
  rw [if_pos hw]
  simp only [Oper.wp,hrun,Oper.upon]
  have hsz:(w.alloc (.cells c T (0,0))).heap.size=w.heap.size+1:=by simp
  refine hK _ _ ⟨⟨.pointer (some ⟨w.heap.size,0,none⟩),w.heap.size,(w.alloc (.cells c T (0,0))).heap.size⟩,rfl,hgo hpl hLi hcl hpi hB inv _ ⟨rfl,rfl,rfl,by simp,fun k hk=>.inl (RowKit.Below.heap_alloc _ _ _ hk)⟩ ⟨w.heap.size,?_,inv.base.grow.size,by simp⟩ (fun _=>⟨w.heap.size,?_,inv.base.grow.size,?_⟩)⟩
  ·rw [upd_same,hsz]
  ·rw [upd_same,hsz]
  ·show (w.heap.push _)[w.heap.size]? = _
   simp
 | op o1 s =>
  refine wpOp_step ho fun K hK=>?_
  rcases st with⟨hw,hp⟩|⟨hw,st⟩
  ·rw [if_neg (by simp [hw])]
   exact hK _ _ ⟨⟨undef,w.heap.size,w.heap.size⟩,rfl,hgo hpl hLi hcl hpi hB inv _ ⟨rfl,rfl,rfl,Nat.le_refl _,fun k hk=>.inl rfl⟩ hp (fun h=>by cases h)⟩
  ·rw [if_pos hw]
   rcases st with⟨v,w', hrun,hp,hd⟩|⟨w', hrun,hp,hd⟩|⟨f,args,hrun,hc⟩
   ·simp only [Oper.wp,hrun,Oper.upon]
    exact hK _ _ ⟨⟨v,w.heap.size,w'.heap.size⟩,rfl,hgo hpl hLi hcl hpi hB inv _ hd hp (fun h=>by cases h)⟩
   ·simp only [Oper.wp,hrun,Oper.upon]
    exact hK _ _ ⟨⟨undef,w.heap.size,w'.heap.size⟩,rfl,hgo hpl hLi hcl hpi hB inv _ hd hp (fun h=>by cases h)⟩
   ·simp only [Oper.wp,hrun,Oper.upon]
    refine hc.mono fun e w' he=>?_
    obtain⟨v,rfl,hp,hd⟩:=he
    exact hK _ _ ⟨⟨v,w.heap.size,w'.heap.size⟩,rfl,hgo hpl hLi hcl hpi hB inv _ hd hp (fun h=>by cases h)⟩
theorem plan_step{a0:Act}{w0:World}{R0:Nat→Prop}{olds:List (Nat×Nat)}{ws:List Nat}{plan:List (Pl w0.heap.size R0 olds)}(hok:okB ops ws plan=true)(hws:∀ (x k i:Nat),olds[x]? = some (k,i)→ws[x]? = some i)(holds:∀ (x k i:Nat),olds[x]? = some (k,i)→k<w0.heap.size)(hinj:∀ (x y k i j:Nat),olds[x]? = some (k,i)→olds[y]? = some (k,j)→x=y)(hin:inB ops a0=true)(hs:∀ (i:Nat) (pl:Pl w0.heap.size R0 olds),plan[i]? = some pl→StepOK P ops w0.heap.size R0 olds a0 w0 (plan.take i) i pl)(L:Nat→Bool)(i:Nat)(o:Oper)(ho:ops[i]? = some o)(hLi:L i=false)(hpi:∀ j,j<ops.size→pre ops i j=true→L j=true)(hcl:∀ p q,p<ops.size→q<ops.size→L p=true→pre ops p q=true→L q=true)(u:Nat→Got)(w:World)(inv:Inv w0 plan L u w):wpOp P ops Q i (fun a' w' => ∃ v:Got,a'=(fill ops u ops.size a0).put o.dst v.v∧Inv w0 plan (fun j=>j == i||L j) (upd u i v) w') (fill ops u ops.size a0) w :=
 plan_step1 hok hws holds hinj hin L i (hs i) o ho hLi hpi hcl u w inv
theorem inv_ne{B0:Nat}{R0:Nat→Prop}{olds:List (Nat×Nat)}{w0:World}{plan:List (Pl B0 R0 olds)}{L:Nat→Bool}{u:Nat→Got}{w:World}(inv:Inv w0 plan L u w)(hall:∀ i,i<plan.length→L i=true)(i j:Nat)(p q:Pl B0 R0 olds)(hp:plan[i]? = some p)(hq:plan[j]? = some q)(hpa:p.isAlloc=true)(hqa:q.isAlloc=true)(hij:i≠j):(u i).v≠(u j).v:=by
 have hi:i<plan.length:=(List.getElem?_eq_some_iff.1 hp).1
 have hj:j<plan.length:=(List.getElem?_eq_some_iff.1 hq).1
 have hap:=inv.apart i j hi hj (hall i hi) (hall j hj) hij
 have h1:=inv.fact i p hp (hall i hi)
 have h2:=inv.fact j q hq (hall j hj)
 cases p with
 | op _ _=>cases hpa
 | alloc c T =>
  cases q with
  | op _ _=>cases hqa
  | alloc c' T' =>
   obtain⟨b,e1,_,_⟩:=h1
   obtain⟨b', e2,_,_⟩:=h2
   rw [e1,e2] at hap ⊢
   simp only [ne_eq,Value.pointer.injEq,Option.some.injEq,Addr.mk.injEq,and_true]
   simp only at hap
   omega
structure Olds (w0:World) (olds:List (Nat×Nat)) (ws:List Nat):Prop where
 ws:∀ (x k i:Nat),olds[x]? = some (k,i)→ws[x]? = some i
 lt:∀ (x k i:Nat),olds[x]? = some (k,i)→k<w0.heap.size
 inj:∀ (x y k i j:Nat),olds[x]? = some (k,i)→olds[y]? = some (k,j)→x=y
theorem Olds.nil(w0:World):Olds w0 [] []:=⟨fun x k i h=>by simp at h,fun x k i h=>by simp at h,fun x y k i j h=>by simp at h⟩
theorem Olds.one{w0:World}{k i:Nat}(h:k<w0.heap.size):Olds w0 [(k,i)] [i]:=by
 refine⟨fun x k' i' hx=>?_,fun x k' i' hx=>?_,fun x y k' i' j' hx hy=>?_⟩
 ·match x,hx with|0,hx=>simp at hx;simp [hx.2]
 ·match x,hx with|0,hx=>simp at hx;omega
 ·match x,y,hx,hy with|0,0,_,_=>rfl
theorem Olds.cons{w0:World}{k i:Nat}{R0:Nat→Prop}{olds:List (Nat×Nat)}{ws:List Nat}(h:k<w0.heap.size)(hn:∀ p ∈ olds,p.1≠k)(t:Olds w0 olds ws):Olds w0 ((k,i)::olds) (i::ws):=by
 refine⟨fun x k' i' hx=>?_,fun x k' i' hx=>?_,fun x y k' i' j' hx hy=>?_⟩
 ·cases x with
  | zero=>simp at hx;simp [hx.2]
  | succ x=>simp at hx ⊢;exact t.ws x k' i' hx
 ·cases x with
  | zero=>simp at hx;omega
  | succ x=>simp at hx;exact t.lt x k' i' hx
 ·cases x with
  | zero =>
   cases y with
   | zero=>rfl
   | succ y=>simp at hx hy;exact absurd hx.1.symm (hn _ (List.mem_of_getElem? hy))
  | succ x =>
   cases y with
   | zero=>simp at hx hy;exact absurd hy.1.symm (hn _ (List.mem_of_getElem? hx))
   | succ y=>simp at hx hy;rw [t.inj x y k' i' j' hx hy]
theorem wp_region_plan{a0:Act}{w0:World}(n:Nat)(hn:ops.size=n)(R0:Nat→Prop)(olds:List (Nat×Nat))(ws:List Nat)(ho:Olds w0 olds ws)(hin:inB ops a0=true)(h:Todo P ops Q w0.heap.size R0 olds ws a0 w0 n []):RegAny P ops Q a0 w0:=by
 subst hn
 obtain⟨plan,⟨more,hmore,hlen⟩,hs,h0⟩:=todo_full _ _ h
 obtain⟨hok,hfin⟩:=h0
 have hl:=ok_len hok
 have lt:∀ {j:Nat} {q:Pl w0.heap.size R0 olds},plan[j]? = some q→j<ops.size:=fun hq=>by rw [← hl.1];exact (List.getElem?_eq_some_iff.1 hq).1
 refine wp_region_inv hl.2.1 hl.2.2 (Inv w0 plan) ⟨⟨GrowS.drew _ w0,fun _ _ _=>rfl⟩,(fun _ _ _ _ _=>rfl),(fun _ _ _ h=>by cases h),(fun _ _ _ h=>by cases h),(fun _ _ h=>by cases h),(fun _ _ _ _ h=>by cases h)⟩
  (plan_step hok ho.ws ho.lt ho.inj hin (fun i pl hp=>hs i pl (by simp) hp)) ?_
 intro L u w hall inv
 exact hfin u w inv.base (fun j p hp=>inv.fact j p hp (hall j (lt hp))) (fun m p hp hpa hno=>inv.blank m p hp (hall m (lt hp)) hpa (fun i q hq ho=>absurd ho (hno i q hq))) (inv_ne inv (fun i hi=>hall i (by omega))) (fun i hi=>(inv.span i hi (hall i (by omega))).1)
theorem wp_region_plan_seq{a0:Act}{w0:World}(n:Nat)(hn:ops.size=n)(R0:Nat→Prop)(olds:List (Nat×Nat))(ws:List Nat)(ho:Olds w0 olds ws)(hin:inB ops a0=true)(h:Todo P ops Q w0.heap.size R0 olds ws a0 w0 n []):RegOps P ops Q a0 w0:=by
 subst hn
 obtain⟨plan,⟨more,hmore,hlen⟩,hs,h0⟩:=todo_full _ _ h
 obtain⟨hok,hfin⟩:=h0
 have hl:=ok_len hok
 have lt:∀ {j:Nat} {q:Pl w0.heap.size R0 olds},plan[j]? = some q→j<ops.size:=fun hq=>by rw [← hl.1];exact (List.getElem?_eq_some_iff.1 hq).1
 refine wp_region_inv_seq hl.2.1 hl.2.2 (Inv w0 plan) ⟨⟨GrowS.refl _ w0,fun _ _ _=>rfl⟩,(fun _ _ _ _ _=>rfl),(fun _ _ _ h=>by cases h),(fun _ _ _ h=>by cases h),(fun _ _ h=>by cases h),(fun _ _ _ _ h=>by cases h)⟩
  (plan_step hok ho.ws ho.lt ho.inj hin (fun i pl hp=>hs i pl (by simp) hp)) ?_
 intro L u w hall inv
 exact hfin u w inv.base (fun j p hp=>inv.fact j p hp (hall j (lt hp))) (fun m p hp hpa hno=>inv.blank m p hp (hall m (lt hp)) hpa (fun i q hq ho=>absurd ho (hno i q hq))) (inv_ne inv (fun i hi=>hall i (by omega))) (fun i hi=>(inv.span i hi (hall i (by omega))).1)
def firsts(n m:Nat):Array Bool:=(List.replicate n true++List.replicate m false).toArray
theorem wpAny_invT{n m:Nat}(hsz:ops.size=n+m)(hm:0<m)(hpre:preB ops=true)(hap:apartB ops=true)(hsink:Region.sinkB .any ops n=true)(hchain:Region.chainB .any ops n=true)(hseq:Region.seqB .any ops m n (firsts n m)=true)(I:(Nat→Bool)→(Nat→Got)→World→Prop)(a0:Act)(step:∀ (L:Nat→Bool) i o,i<n→ops[i]? = some o→L i=false→(∀ j,j<ops.size→pre ops i j=true→L j=true) →
   (∀ p q,p<ops.size→q<ops.size→L p=true→pre ops p q=true→L q=true)→∀ u w,I L u w →
   wpOp P ops Q i (fun a' w' => ∃ v:Got,a'=(fill ops u ops.size a0).put o.dst v.v∧I (fun j=>j == i||L j) (upd u i v) w') (fill ops u ops.size a0) w)(fin:∀ L u w,(∀ i,i<n→L i=true)→I L u w→wpList P ops Q (ops.toList.drop n) (fill ops u ops.size a0) w):∀ (fuel:Nat) (listed:Array Bool) (a:Act) (w:World),Holds ops I a0 listed a w→HeadInv .any ops n listed →
   (fuel=(List.range n).countP (fun i=>!listed.getD i false))→wpAny P .any ops Q (fuel+m) listed a w:=by
 intro fuel
 induction fuel with
 | zero =>
  intro listed a w h hd hc
  have hall:∀ i,i<n→listed.getD i false=true:=fun i hi=>by
   have:=(List.countP_eq_zero.1 hc.symm) i (List.mem_range.2 hi)
   simpa using this
  have he:listed=firsts n m:=by
   apply Array.ext
   ·rw [hd.size,hsz];simp [firsts]
   ·intro i h1 h2
    rcases Nat.lt_or_ge i n with hi|hi
    ·have:=hall i hi
     simp only [Array.getD,h1,dite_true] at this
     simp [firsts,List.getElem_append,hi]
     exact this
    ·have:=hd.tail i hi (by rw [← hd.size];exact h1)
     simp only [Array.getD,h1,dite_true] at this
     simp [firsts,List.getElem_append,Nat.not_lt.2 hi]
     exact this
  obtain⟨u,rfl,hI⟩:=h.inv
  subst he
  have h1:=fin _ u w hall hI
  have hl:(ops.toList.drop n).length=m:=by simp;omega
  have:=wpAny_of_seq (md:=.any) (Q' := Q) (ops.toList.drop n) n _ _ w (fun j=>by simp [List.getElem?_drop]) (by rw [hl];exact hseq) h1
  rw [hl] at this
  rw [Nat.zero_add];exact this
 | succ fuel ih =>
  intro listed a w h hd hc
  obtain⟨i0,hi0,hl0⟩:∃ i,i<n∧listed.getD i false=false:=by
   have hp:0<(List.range n).countP (fun i=>!listed.getD i false):=by omega
   obtain⟨i,hi,hh⟩:=List.countP_pos_iff.1 hp
   exact⟨i,List.mem_range.1 hi,by simpa using hh⟩
  rw [show fuel+1+m=(fuel+m)+1 by omega]
  refine⟨fun hr=>?_,fun i hi=>?_⟩
  ·exfalso
   have hall:∀ i,i<ops.size→listed.getD i false=true:=by
    intro i
    induction i using Nat.strongRecOn with
    | _ i ih =>
     intro hi
     cases hl:listed.getD i false with
     | true=>rfl
     | false =>
      exfalso
      obtain⟨o,ho⟩:∃ o,ops[i]? = some o:=⟨ops[i],by simp [hi]⟩
      have hm' : i ∈ Region.ready .any ops listed:=by
       rw [mem_ready]
       refine⟨getD_in (by rw [hd.size];exact hi) hl,o,ho,fun e he hb=>?_⟩
       have:=back_spec hpre ho he hb
       exact ih _ this (by omega)
      rw [hr] at hm'
      cases hm'
   rw [hall i0 (by omega)] at hl0;cases hl0
  ·obtain⟨h0,o,ho,hall⟩:=mem_ready.1 hi
   have hilt:i<ops.size:=(Array.getElem?_eq_some_iff.1 ho).1
   have hil:i<listed.size:=by rw [hd.size];exact hilt
   have hin:i<n:=by
    rcases Nat.lt_or_ge i n with h|h
    ·exact h
    ·exact absurd hi (tail_waits hsink hchain (by omega) hd _ i0 rfl hi0 (getD_in (by rw [hd.size];omega) hl0) i h)
   have hl1:listed.getD i false=false:=by simpa [Array.getD,hil] using h0
   obtain⟨u,rfl,hI⟩:=h.inv
   have hp:∀ j,j<ops.size→pre ops i j=true→listed.getD j false=true:=by
    intro j hj hpj
    rcases pre_spec hpre hilt hj hpj with hdi|⟨k,hk,hdi,hkj⟩
    ·obtain⟨e,he,hb,rfl⟩:=(direct_of ho).1 hdi
     exact hall e he hb
    ·obtain⟨e,he,hb,rfl⟩:=(direct_of ho).1 hdi
     exact h.closed _ _ hk hj (hall e he hb) hkj
   have hs:=step (fun i=>listed.getD i false) i o hin ho hl1 hp h.closed u w hI
   refine wpOp_mono (fun a' w' hk=>?_) hs
   obtain⟨v,rfl,hI'⟩:=hk
   have hfun:(fun j=>(listed.setIfInBounds i true).getD j false)=(fun j=>j == i||listed.getD j false):=by
    funext j
    by_cases hji:j=i
    ·subst hji;simp [hil]
    ·rw [getD_set_ne false (Ne.symm hji)];simp [hji]
   refine ih _ _ _ ⟨?_,upd u i v,?_,?_⟩ (hd.set hi hin) ?_
   ·intro p q hpl hql hlp hpq
    by_cases hpi:i=p
    ·subst hpi;exact getD_set_true (hp q hql hpq)
    ·rw [getD_set_ne false hpi] at hlp
     exact getD_set_true (h.closed p q hpl hql hlp hpq)
   ·have:dstOf ops i=o.dst:=by simp [dstOf,ho]
    rw [fill_upd hap u a0 v i hilt ops.size hilt (Nat.le_refl _),this]
   ·rw [hfun];exact hI'
   ·have key:∀ (l:List Nat),l.Nodup→i ∈ l→l.countP (fun j=>!(listed.setIfInBounds i true).getD j false)+1=l.countP (fun j=>!listed.getD j false):=by
     intro l
     induction l with
     | nil=>intro _ h;cases h
     | cons x l ihl =>
      intro hnd hmem
      obtain⟨hx,hnd'⟩:=List.nodup_cons.1 hnd
      rw [List.countP_cons,List.countP_cons]
      by_cases hxi:x=i
      ·subst hxi
       have e1:l.countP (fun j=>!(listed.setIfInBounds x true).getD j false)=l.countP (fun j=>!listed.getD j false):=by
        apply List.countP_congr
        intro j hj
        have:x≠j:=fun e=>hx (e ▸ hj)
        rw [getD_set_ne false this]
       have e2:(listed.setIfInBounds x true).getD x false=true:=by simp [hil]
       simp only [e1,e2,hl1,Bool.not_true,Bool.not_false,if_true]
       simp
      ·have hm' : i ∈ l:=by
        rcases List.mem_cons.1 hmem with h|h
        ·exact absurd h.symm hxi
        ·exact h
       have:=ihl hnd' hm'
       rw [getD_set_ne false (Ne.symm hxi)]
       omega
    have:=key (List.range n) List.nodup_range (List.mem_range.2 hin)
    omega
def TodoT(P:Program)(ops:Array Oper)(Q:Exit→Act→World→Prop)(B0:Nat)(R0:Nat→Prop)(olds:List (Nat×Nat))(ws:List Nat)(a0:Act)(w0:World)(m:Nat):Nat→List (Pl B0 R0 olds)→Prop
 | 0,plan=>okB ops ws (plan++List.replicate m (.op none ⟨fun _ _=>True,[],[],[],[],fun _ _ _ _ _=>trivial,fun _ _ _ _ _=>trivial⟩))=true∧∀ u w,Base B0 R0 olds w0 w→(∀ (j:Nat) (p:Pl B0 R0 olds),plan[j]? = some p→p.fact j u w) →
   (∀ (m:Nat) (p:Pl B0 R0 olds),plan[m]? = some p→p.isAlloc=true→(∀ (i:Nat) (q:Pl B0 R0 olds),plan[i]? = some q→q.own≠some m)→p.blank m u w) →
   (∀ (i j:Nat) (p q:Pl B0 R0 olds),plan[i]? = some p→plan[j]? = some q→p.isAlloc=true→q.isAlloc=true→i≠j→(u i).v≠(u j).v)→(∀ i,i<plan.length→B0≤(u i).lo)→(∀ t,plan.length≤t→u t=start ops a0 t)→wpList P ops Q (ops.toList.drop plan.length) (fill ops u ops.size a0) w
 | k+1,plan=>∃ pl,StepOK P ops B0 R0 olds a0 w0 plan plan.length pl∧TodoT P ops Q B0 R0 olds ws a0 w0 m k (plan++[pl])
theorem todoT_full{B0 R0 olds ws a0 w0 m}:∀ k (plan:List (Pl B0 R0 olds)),TodoT P ops Q B0 R0 olds ws a0 w0 m k plan→∃ full,(∃ more,full=plan++more∧more.length=k) ∧
  (∀ i pl,plan.length≤i→full[i]? = some pl→StepOK P ops B0 R0 olds a0 w0 (full.take i) i pl)∧TodoT P ops Q B0 R0 olds ws a0 w0 m 0 full
 | 0,plan,h=>⟨plan,⟨[],by simp⟩,fun i pl hi hp=>by simp [List.getElem?_eq_none hi] at hp,h⟩
 | k+1,plan,⟨pl,h1,h2⟩=>by
  obtain⟨full,⟨more,rfl,hm⟩,hs,h0⟩:=todoT_full k _ h2
  refine⟨_,⟨pl::more,by simp,by simp [hm]⟩,?_,h0⟩
  intro i q hi hq
  rcases Nat.lt_or_ge plan.length i with hlt|hge
  ·exact hs i q (by simp;omega) hq
  ·have e:i=plan.length:=by omega
   subst e
   have h3:q=pl:=by simpa using hq.symm
   subst h3
   simpa using h1
theorem start_keep{a0:Act}{u:Nat→Got}{i n:Nat}{v:Got}(hi:i<n)(h:∀ t,n≤t→u t=start ops a0 t):∀ t,n≤t→upd u i v t=start ops a0 t:=fun t ht=>by
 rw [upd_other u v (by omega)];exact h t ht
theorem wp_region_planT{a0:Act}{w0:World}(n m:Nat)(hn:ops.size=n+m)(hm0:0<m)(hsink:Region.sinkB .any ops n=true)(hchain:Region.chainB .any ops n=true)(hseq:Region.seqB .any ops m n (firsts n m)=true)(R0:Nat→Prop)(olds:List (Nat×Nat))(ws:List Nat)(ho:Olds w0 olds ws)(hin:inB ops a0=true)(h:TodoT P ops Q w0.heap.size R0 olds ws a0 w0 m n []):RegAny P ops Q a0 w0:=by
 obtain⟨plan,⟨more,hmore,hlen⟩,hs,h0⟩:=todoT_full _ _ h
 obtain⟨hok,hfin⟩:=h0
 have hl:=ok_len hok
 have hpl:plan.length=n:=by rw [hmore];simpa using hlen
 generalize hT:List.replicate m (Pl.op (B0:=w0.heap.size) (R0:=R0) (olds:=olds) none ⟨fun _ _=>True,[],[],[],[],fun _ _ _ _ _=>trivial,fun _ _ _ _ _=>trivial⟩)=T at hok hl
 have lt:∀ {j:Nat} {q:Pl w0.heap.size R0 olds},plan[j]? = some q→j<n:=fun hq=>by rw [← hpl];exact (List.getElem?_eq_some_iff.1 hq).1
 have up:∀ {j:Nat} {q:Pl w0.heap.size R0 olds},plan[j]? = some q→(plan++T)[j]? = some q:=fun hq=>by rw [List.getElem?_append_left (by rw [hpl];exact lt hq)];exact hq
 have dn:∀ {j:Nat} {q:Pl w0.heap.size R0 olds},j<n→(plan++T)[j]? = some q→plan[j]? = some q:=fun hj hq=>by rwa [List.getElem?_append_left (by omega)] at hq
 have notown:∀ {j:Nat} {q:Pl w0.heap.size R0 olds},(plan++T)[j]? = some q→n≤j→q.own=none:=fun {j q} hq hj=>by
  rw [List.getElem?_append_right (by omega),← hT] at hq
  have:=List.mem_of_getElem? hq
  rw [List.eq_of_mem_replicate this];rfl
 unfold RegAny
 have hrep:∀ i,(Array.replicate ops.size false).getD i false=false:=fun i=>by simp [Array.getD]
 have hfun:(fun i=>(Array.replicate ops.size false).getD i false)=fun _=>false:=funext hrep
 have key:=wpAny_invT (P:=P) (Q:=Q) hn hm0 hl.2.1 hl.2.2 hsink hchain hseq (fun L u w=>Inv w0 (plan++T) L u w∧∀ t,n≤t→u t=start ops a0 t) a0 ?_ ?_ n (Array.replicate ops.size false) a0 w0.drew ⟨?_,start ops a0,?_,?_⟩ ?_ ?_
 ·rw [← hn] at key;exact key
 ·intro L i o hi ho' hLi hpi hcl u w ⟨inv,hst⟩
  have h1:=plan_step1 (Q:=Q) hok ho.ws ho.lt ho.inj hin L i (fun pl hp=>by
   have:=hs i pl (by simp) (dn hi hp)
   rwa [show (plan++T).take i=plan.take i by rw [List.take_append_of_le_length (by omega)]]) o ho' hLi hpi hcl u w inv
  exact wpOp_mono (fun a' w' ⟨v,h2,h3⟩=>⟨v,h2,h3,start_keep hi hst⟩) h1
 ·intro L u w hall ⟨inv,hst⟩
  have hf:=hfin u w inv.base (fun j p hp=>inv.fact j p (up hp) (hall j (lt hp))) (fun m' p hp hpa hno=>inv.blank m' p (up hp) (hall m' (lt hp)) hpa (fun i q hq ho=>by
    rcases Nat.lt_or_ge i n with h|h
    ·exact absurd ho (hno i q (dn h hq))
    ·rw [notown hq h] at ho;cases ho)) (fun i j p q hp hq hpa hqa hij=>by
    have hi:=lt hp;have hj:=lt hq
    have hap:=inv.apart i j (by simp;omega) (by simp;omega) (hall i hi) (hall j hj) hij
    have e1:=inv.fact i p (up hp) (hall i hi)
    have e2:=inv.fact j q (up hq) (hall j hj)
    cases p with
    | op _ _=>cases hpa
    | alloc c T' =>
     cases q with
     | op _ _=>cases hqa
     | alloc c' T'' =>
      obtain⟨b,e1,_,_⟩:=e1
      obtain⟨b', e2,_,_⟩:=e2
      rw [e1,e2] at hap ⊢
      simp only [ne_eq,Value.pointer.injEq,Option.some.injEq,Addr.mk.injEq,and_true]
      simp only at hap
      omega) (fun i hi=>(inv.span i (by simp;omega) (hall i (by omega))).1) (fun t ht=>hst t (by omega))
  rwa [hpl] at hf
 ·intro i j _ _ h;rw [hrep] at h;cases h
 ·exact (fill_start a0 _).symm
 ·rw [hfun]
  exact⟨⟨⟨GrowS.drew _ w0,fun _ _ _=>rfl⟩,(fun _ _ _ _ _=>rfl),(fun _ _ _ h=>by cases h),(fun _ _ _ h=>by cases h),(fun _ _ h=>by cases h),(fun _ _ _ _ h=>by cases h)⟩,fun _ _=>rfl⟩
 ·exact⟨by simp,(fun j oj _ hl=>by rw [hrep] at hl;cases hl),fun t ht ht' => getD_in (by simpa using ht') (hrep t)⟩
 ·have:∀ (l:List Nat),(l.countP fun i=>!(Array.replicate ops.size false).getD i false)=l.length:=fun l=>by
   rw [List.countP_eq_length];intro i _;simp [hrep]
  rw [this,List.length_range]
theorem wpOps_invT{n m:Nat}(hsz:ops.size=n+m)(hpre:preB ops=true)(hap:apartB ops=true)(I:(Nat→Bool)→(Nat→Got)→World→Prop)(a0:Act)(step:∀ (L:Nat→Bool) i o,i<n→ops[i]? = some o→L i=false→(∀ j,j<ops.size→pre ops i j=true→L j=true) →
   (∀ p q,p<ops.size→q<ops.size→L p=true→pre ops p q=true→L q=true)→∀ u w,I L u w →
   wpOp P ops Q i (fun a' w' => ∃ v:Got,a'=(fill ops u ops.size a0).put o.dst v.v∧I (fun j=>j == i||L j) (upd u i v) w') (fill ops u ops.size a0) w)(fin:∀ L u w,(∀ i,i<n→L i=true)→I L u w→wpList P ops Q (ops.toList.drop n) (fill ops u ops.size a0) w):∀ (k i:Nat) (u:Nat→Got) (w:World),i+k=n→I (fun j=>decide (j<i)) u w→wpOps P ops Q (List.range' i k++List.range' n m) (fill ops u ops.size a0) w:=by
 have before:∀ p q,p<ops.size→q<ops.size→pre ops p q=true→q<p:=by
  intro p
  induction p using Nat.strongRecOn with
  | _ p ih =>
   intro q hp hq h
   rcases pre_spec hpre hp hq h with hd|⟨k,hk,hd,hkj⟩
   ·obtain⟨o,ho⟩:∃ o,ops[p]? = some o:=⟨ops[p],by simp [hp]⟩
    obtain⟨e,he,hb,rfl⟩:=(direct_of ho).1 hd
    exact back_spec hpre ho he hb
   ·obtain⟨o,ho⟩:∃ o,ops[p]? = some o:=⟨ops[p],by simp [hp]⟩
    obtain⟨e,he,hb,rfl⟩:=(direct_of ho).1 hd
    have h1:=back_spec hpre ho he hb
    have:=ih _ h1 q hk hq hkj
    omega
 intro k
 induction k with
 | zero =>
  intro i u w hi h
  have h1:=fin _ u w (fun j hj=>by simp;omega) h
  have hl:(ops.toList.drop n).length=m:=by simp;omega
  have h2:=wpOps_eq_wpList (P:=P) (ops:=ops) (Q:=Q) (ops.toList.drop n) n (fun j=>by simp [List.getElem?_drop])
  rw [hl] at h2
  show wpOps P ops Q ([]++List.range' n m) _ w
  rw [List.nil_append,h2]
  exact h1
 | succ k ih =>
  intro i u w hi h
  have hlt:i<ops.size:=by omega
  obtain⟨o,ho⟩:∃ o,ops[i]? = some o:=⟨ops[i],by simp [hlt]⟩
  rw [List.range'_succ,List.cons_append,wpOps_cons]
  have hs:=step (fun j=>decide (j<i)) i o (by omega) ho (by simp) (fun j hj hp=>by simpa using before i j hlt hj hp) (fun p q hp hq hl hpq=>by
   simp only [decide_eq_true_eq] at hl ⊢
   have:=before p q hp hq hpq
   omega) u w h
  refine wpOp_mono (fun a' w' hk=>?_) hs
  obtain⟨v,rfl,hI⟩:=hk
  have e:(fun j=>j == i||decide (j<i))=fun j=>decide (j<i+1):=by
   funext j
   rw [Bool.eq_iff_iff]
   simp
   omega
  rw [e] at hI
  have:dstOf ops i=o.dst:=by simp [dstOf,ho]
  rw [← this,← fill_upd hap u a0 v i hlt ops.size hlt (Nat.le_refl _)]
  exact ih (i+1) _ w' (by omega) hI
theorem wp_region_planT_seq{a0:Act}{w0:World}(n m:Nat)(hn:ops.size=n+m)(R0:Nat→Prop)(olds:List (Nat×Nat))(ws:List Nat)(ho:Olds w0 olds ws)(hin:inB ops a0=true)(h:TodoT P ops Q w0.heap.size R0 olds ws a0 w0 m n []):RegOps P ops Q a0 w0:=by
 obtain⟨plan,⟨more,hmore,hlen⟩,hs,h0⟩:=todoT_full _ _ h
 obtain⟨hok,hfin⟩:=h0
 have hl:=ok_len hok
 have hpl:plan.length=n:=by rw [hmore];simpa using hlen
 generalize hT:List.replicate m (Pl.op (B0:=w0.heap.size) (R0:=R0) (olds:=olds) none ⟨fun _ _=>True,[],[],[],[],fun _ _ _ _ _=>trivial,fun _ _ _ _ _=>trivial⟩)=T at hok hl
 have lt:∀ {j:Nat} {q:Pl w0.heap.size R0 olds},plan[j]? = some q→j<n:=fun hq=>by rw [← hpl];exact (List.getElem?_eq_some_iff.1 hq).1
 have up:∀ {j:Nat} {q:Pl w0.heap.size R0 olds},plan[j]? = some q→(plan++T)[j]? = some q:=fun hq=>by rw [List.getElem?_append_left (by rw [hpl];exact lt hq)];exact hq
 have dn:∀ {j:Nat} {q:Pl w0.heap.size R0 olds},j<n→(plan++T)[j]? = some q→plan[j]? = some q:=fun hj hq=>by rwa [List.getElem?_append_left (by omega)] at hq
 have notown:∀ {j:Nat} {q:Pl w0.heap.size R0 olds},(plan++T)[j]? = some q→n≤j→q.own=none:=fun {j q} hq hj=>by
  rw [List.getElem?_append_right (by omega),← hT] at hq
  have:=List.mem_of_getElem? hq
  rw [List.eq_of_mem_replicate this];rfl
 have key:=wpOps_invT (P:=P) (Q:=Q) hn hl.2.1 hl.2.2 (fun L u w=>Inv w0 (plan++T) L u w∧∀ t,n≤t→u t=start ops a0 t) a0 ?_ ?_ n 0 (start ops a0) w0 (by omega) ?_
 ·rw [fill_start] at key
  unfold RegOps
  rw [List.range_eq_range', hn,List.range'_append_1 |>.symm]
  simpa using key
 ·intro L i o hi ho' hLi hpi hcl u w ⟨inv,hst⟩
  have h1:=plan_step1 (Q:=Q) hok ho.ws ho.lt ho.inj hin L i (fun pl hp=>by
   have:=hs i pl (by simp) (dn hi hp)
   rwa [show (plan++T).take i=plan.take i by rw [List.take_append_of_le_length (by omega)]]) o ho' hLi hpi hcl u w inv
  exact wpOp_mono (fun a' w' ⟨v,h2,h3⟩=>⟨v,h2,h3,start_keep hi hst⟩) h1
 ·intro L u w hall ⟨inv,hst⟩
  have hf:=hfin u w inv.base (fun j p hp=>inv.fact j p (up hp) (hall j (lt hp))) (fun m' p hp hpa hno=>inv.blank m' p (up hp) (hall m' (lt hp)) hpa (fun i q hq ho=>by
    rcases Nat.lt_or_ge i n with h|h
    ·exact absurd ho (hno i q (dn h hq))
    ·rw [notown hq h] at ho;cases ho)) (fun i j p q hp hq hpa hqa hij=>by
    have hi:=lt hp;have hj:=lt hq
    have hap:=inv.apart i j (by simp;omega) (by simp;omega) (hall i hi) (hall j hj) hij
    have e1:=inv.fact i p (up hp) (hall i hi)
    have e2:=inv.fact j q (up hq) (hall j hj)
    cases p with
    | op _ _=>cases hpa
    | alloc c T' =>
     cases q with
     | op _ _=>cases hqa
     | alloc c' T'' =>
      obtain⟨b,e1,_,_⟩:=e1
      obtain⟨b', e2,_,_⟩:=e2
      rw [e1,e2] at hap ⊢
      simp only [ne_eq,Value.pointer.injEq,Option.some.injEq,Addr.mk.injEq,and_true]
      simp only at hap
      omega) (fun i hi=>(inv.span i (by simp;omega) (hall i (by omega))).1) (fun t ht=>hst t (by omega))
  rwa [hpl] at hf
 ·exact⟨⟨⟨GrowS.refl _ w0,fun _ _ _=>rfl⟩,(fun _ _ _ _ _=>rfl),(fun _ _ _ h=>by simp at h),(fun _ _ _ h=>by simp at h),(fun _ _ h=>by simp at h),(fun _ _ _ _ h=>by simp at h)⟩,fun _ _=>rfl⟩
end
section
variable {P:Program} {ops:Array Oper} {Q:Exit→Act→World→Prop} {B0:Nat} {R0:Nat→Prop} {olds:List (Nat×Nat)} {ws:List Nat} {a0:Act} {w0:World} {F:List (Pl B0 R0 olds)→Prop} {F0:List (Pl w0.heap.size R0 olds)→Prop}
def TodoG(P:Program)(ops:Array Oper){B0:Nat}{R0:Nat→Prop}{olds:List (Nat×Nat)}(a0:Act)(w0:World)(F:List (Pl B0 R0 olds)→Prop):Nat→List (Pl B0 R0 olds)→Prop
 | 0,plan=>F plan
 | k+1,plan=>∃ pl,StepOK P ops B0 R0 olds a0 w0 plan plan.length pl∧TodoG P ops a0 w0 F k (plan++[pl])
theorem TodoG.todo:∀ k (plan:List (Pl B0 R0 olds)),TodoG P ops a0 w0 (Todo P ops Q B0 R0 olds ws a0 w0 0) k plan→Todo P ops Q B0 R0 olds ws a0 w0 k plan
 | 0,_,h=>h
 | k+1,_,⟨pl,h1,h2⟩=>⟨pl,h1,TodoG.todo k _ h2⟩
theorem TodoG.todoT{m:Nat}:∀ k (plan:List (Pl B0 R0 olds)),TodoG P ops a0 w0 (TodoT P ops Q B0 R0 olds ws a0 w0 m 0) k plan→TodoT P ops Q B0 R0 olds ws a0 w0 m k plan
 | 0,_,h=>h
 | k+1,_,⟨pl,h1,h2⟩=>⟨pl,h1,TodoG.todoT k _ h2⟩
def SP.triv:SP B0 R0 olds:=⟨fun _ _=>True,[],[],[],[],fun _ _ _ _ _=>trivial,fun _ _ _ _ _=>trivial⟩
def SP.eq(i:Nat)(V:Value):SP B0 R0 olds:=⟨fun u _=>(u i).v=V,[i],[],[],[],fun u u' w h hp=>by rw [← h i (by simp)];exact hp,fun _ _ _ _ h=>h⟩
structure VP where
 p:(Nat→Prop)→Value→World→Prop
 mono:∀ {S S' : Nat→Prop} {v w},(∀ k,k<w.heap.size→S k→S' k)→p S v w→p S' v w
 grow:∀ {S:Nat→Prop} {v w w'},GrowS S w w'→p S v w→p S v w'
def Any:Nat→Prop:=fun _=>True
theorem VP.inS(φ:VP){S0:Nat→Prop}{v w}{n:Nat}(hn:w.heap.size≤n)(h:φ.p S0 v w):φ.p (fun k=>S0 k∧k<n) v w:=φ.mono (fun k hk hs=>⟨hs,by omega⟩) h
theorem VP.any(φ:VP){S:Nat→Prop}{v w}(h:φ.p S v w):φ.p Any v w:=φ.mono (fun _ _ _=>trivial) h
theorem VP.lt(φ:VP){v w}{n:Nat}(hn:w.heap.size≤n)(h:φ.p Any v w):φ.p (·<n) v w:=φ.mono (fun k hk _=>by omega) h
def VP.is(V:Value):VP:=⟨fun _ v _=>v=V,fun _ h=>h,fun _ h=>h⟩
def Settled(R0:Nat→Prop)(B0:Nat)(l:List Nat)(u:Nat→Got):Nat→Prop:=fun k=>(R0 k∧k<B0)∨(B0≤k∧∃ j,j ∈ l∧(u j).lo≤k∧k<(u j).hi)
theorem Chg.growS{keeps kb near u w w'}(h:Chg B0 R0 olds keeps kb near u w w'):GrowS (Settled R0 B0 near u) w w' :=
 ⟨h.os,h.tape,h.output,h.size,fun k hk=>by
  rcases h.block k hk with h1|⟨h1,h2,_,h3⟩|⟨h1,h2,_⟩
  ·exact .inl h1
  ·rcases h2.or with h2|h2
   ·exact .inr (.inl h2)
   ·refine .inr (.inr ⟨h2,?_⟩)
    rintro (h4|⟨_,j,hj,h4,h5⟩)
    ·have:=h4.2;omega
    ·have:=h3 j hj;omega
  ·rcases h2 with h2|⟨h2,h3⟩
   ·exact .inr (.inl h2)
   ·refine .inr (.inr ⟨h2,?_⟩)
    rintro (h4|⟨h4,_⟩)
    ·exact h3 h4.1
    ·omega⟩
def SP.val(i:Nat)(near:List Nat)(φ:VP):SP B0 R0 olds :=
  ⟨fun u w=>φ.p (Settled R0 B0 (i::near) u) (u i).v w,i::near,[],[],i::near,
   fun u u' w h hp=>by
    have e:Settled R0 B0 (i::near) u=Settled R0 B0 (i::near) u' := by
      funext k
      apply propext
      constructor
      · rintro (h1|⟨h0,j,hj,h2⟩)
        · exact .inl h1
        · exact .inr ⟨h0,j,hj,by rw [← h j hj];exact h2⟩
      · rintro (h1|⟨h0,j,hj,h2⟩)
        · exact .inl h1
        · exact .inr ⟨h0,j,hj,by rw [h j hj];exact h2⟩
    rw [← h i (by simp),← e];exact hp,
   fun u w w' h hp=>φ.grow h.growS hp⟩
def SP.own(i m:Nat)(φ:VP):SP B0 R0 olds :=
  ⟨fun u w=>(u i).v=(u m).v∧∃ b,(u m).v=.pointer (some ⟨b,0,none⟩)∧B0≤b∧φ.p (·=b) (.pointer (some ⟨b,0,none⟩)) w,[i,m],[m],[],[],fun u u' w h hp=>by rw [← h i (by simp),← h m (by simp)];exact hp,
   fun u w w' h ⟨h1,b,h2,h3,h4⟩=>⟨h1,b,h2,h3,φ.grow ⟨h.os,h.tape,h.output,h.size,fun k hk=>by
    rcases h.block k hk with g|⟨_,g,gk,_⟩|⟨g,g2,_⟩
    · exact .inl g
    · rcases g.or with g|g
      · exact .inr (.inl g)
      · exact .inr (.inr ⟨g,fun e=>by subst e;exact gk m (by simp) h2⟩)
    · rcases g2 with g2|⟨g2,_⟩
      · exact .inr (.inl g2)
      · exact .inr (.inr ⟨g2,fun e=>by omega⟩)⟩ h4⟩⟩
def SP.oldV(i x z:Nat)(φ:VP)(hz:z<B0)(hx:∀ (y j:Nat),olds[y]? = some (z,j)→y=x):SP B0 R0 olds :=
  ⟨fun u w=>(u i).v=.pointer (some ⟨z,0,none⟩)∧φ.p (·=z) (.pointer (some ⟨z,0,none⟩)) w,[i],[],[x],[],fun u u' w h hp=>by rw [← h i (by simp)];exact hp,
   fun u w w' h ⟨h1,h4⟩=>⟨h1,φ.grow ⟨h.os,h.tape,h.output,h.size,fun k hk=>by
    rcases h.block k hk with g|⟨g1,g,_,_⟩|⟨_,g2,y,j,hy,hyz⟩
    · exact .inl g
    · rcases g.or with g|g
      · exact .inr (.inl g)
      · exact .inr (.inr ⟨g,fun e=>by omega⟩)
    · rcases g2 with g2|⟨g2,_⟩
      · exact .inr (.inl g2)
      · exact .inr (.inr ⟨g2,fun e=>by subst e;exact hy (by rw [hx y j hyz];simp)⟩)⟩ h4⟩⟩
def SP.cells(m:Nat)(js:List Nat)(V:(Nat→Got)→Array Value)(T:TypeId)(hV:∀ u u', (∀ j,j ∈ js→u j=u' j)→V u=V u'):SP B0 R0 olds :=
  ⟨fun u w=>∃ b,(u m).v=.pointer (some ⟨b,0,none⟩)∧B0≤b∧w.heap[b]? = some (.cells (V u) T (0,0)),m::js,[m],[],[],
   fun u u' w h ⟨b,h1,h2,h3⟩=>⟨b,by rw [← h m (by simp)];exact h1,h2,by rw [← hV u u' (fun j hj=>h j (by simp [hj]))];exact h3⟩,
   fun u w w' h ⟨b,h1,h2,h3⟩=>⟨b,h1,h2,by
    have hlt:b<w.heap.size:=by
      rcases Nat.lt_or_ge b w.heap.size with h'|h'
      · exact h'
      · rw [Array.getElem?_eq_none h'] at h3;cases h3
    rcases h.block b hlt with h'|⟨_,_,h', _⟩|⟨h', _⟩
    · rw [h'];exact h3
    · exact absurd h1 (h' m (by simp))
    · omega⟩⟩
def SP.old(x z:Nat)(js:List Nat)(V:(Nat→Got)→Array Value)(T:TypeId)(hV:∀ u u', (∀ j,j ∈ js→u j=u' j)→V u=V u')(hz:z<B0)(hx:∀ (y i:Nat),olds[y]? = some (z,i)→y=x):SP B0 R0 olds :=
  ⟨fun u w=>w.heap[z]? = some (.cells (V u) T (0,0)),js,[],[x],[],
   fun u u' w h h3=>by rw [← hV u u' h];exact h3,
   fun u w w' h h3=>by
    have hlt:z<w.heap.size:=by
      rcases Nat.lt_or_ge z w.heap.size with h'|h'
      · exact h'
      · rw [Array.getElem?_eq_none h'] at h3;cases h3
    rcases h.block z hlt with h'|⟨h', _,_⟩|⟨_,_,y,i,hy,hyz⟩
    · rw [h'];exact h3
    · omega
    · exact absurd (hx y i hyz) (by intro e;subst e;exact hy (by simp))⟩
theorem Own.any{i m:Nat}{φ:VP}{u:Nat→Got}{w:World}(h:(SP.own (B0:=B0) (R0:=R0) (olds:=olds) i m φ).p u w):φ.p Any (u i).v w:=by
 obtain⟨h1,b,h2,_,h4⟩:=h
 rw [h1,h2];exact φ.mono (fun _ _ _=>trivial) h4
theorem OldV.any{i x z:Nat}{φ:VP}{hz hx}{u:Nat→Got}{w:World}(h:(SP.oldV (B0:=B0) (R0:=R0) (olds:=olds) i x z φ hz hx).p u w):φ.p Any (u i).v w:=by
 obtain⟨h1,h4⟩:=h
 rw [h1];exact φ.mono (fun _ _ _=>trivial) h4
structure Here (ops:Array Oper) (a0:Act) (olds:List (Nat×Nat)) (w0:World) (plan:List (Pl B0 R0 olds)) (i:Nat) (u:Nat→Got) (w:World) (ρ:Operand→Value):Prop where
 env:Env ops a0 u ρ
 base:Base B0 R0 olds w0 w
 old:∀ (x k i' : Nat),olds[x]? = some (k,i')→i'=i∨pre ops i' i=true→w.heap[k]? = w0.heap[k]?
 fact:∀ (j:Nat) (p:Pl B0 R0 olds),plan[j]? = some p→pre ops i j=true→p.fact j u w
section
variable {plan:List (Pl B0 R0 olds)} {i:Nat} {u:Nat→Got} {w:World} {ρ:Operand→Value} (h:Here ops a0 olds w0 plan i u w ρ)
include h
theorem Here.s(t j:Nat)(hs:dstIdx ops t=some j):ρ (.tmp t)=(u j).v:=by
 rw [h.env.tmp t];simp [slot,hs]
theorem Here.e{V:Value}(t j:Nat)(hs:dstIdx ops t=some j)(hf:(u j).v=V):ρ (.tmp t)=V:=(h.s t j hs).trans hf
theorem Here.s0(t:Nat)(hs:dstIdx ops t=none):ρ (.tmp t)=a0.tmps.getD t undef:=by
 rw [h.env.tmp t];simp [slot,hs]
theorem Here.f(j:Nat){p:Pl B0 R0 olds}(hp:plan[j]? = some p)(hb:pre ops i j=true):p.fact j u w:=h.fact j p hp hb
theorem Here.blk{k:Nat}{o:Obj}(hk:w0.heap[k]? = some o)(hB:w0.heap.size≤B0)(hno:∀ (x i:Nat),olds[x]? ≠ some (k,i)):w.heap[k]? = some o:=by
 have hlt:k<w0.heap.size:=by
  rcases Nat.lt_or_ge k w0.heap.size with h'|h'
  ·exact h'
  ·rw [Array.getElem?_eq_none h'] at hk;cases hk
 rw [h.base.block k (by omega) hno];exact hk
theorem Here.blkOld{k:Nat}{o:Obj}(hk:w0.heap[k]? = some o)(x i': Nat)(hx:olds[x]? = some (k,i'))(hor:i'=i∨pre ops i' i=true):w.heap[k]? = some o:=by
 rw [h.old x k i' hx hor];exact hk
end
theorem cell_of{w:World}{k off:Nat}{c:Array Value}{T:TypeId}{fr:Nat×Nat}{v:Value}(h:w.heap[k]? = some (.cells c T fr))(hv:c[off]? = some v):w.cell? ⟨k,off,none⟩=some v:=by
 simp [World.cell?,h,hv]
theorem frozen_of{w:World}{k off:Nat}{c:Array Value}{T:TypeId}(h:w.heap[k]? = some (.cells c T (0,0))):w.frozen? ⟨k,off,none⟩=false:=by
 simp [World.frozen?,h]
theorem no_nil(k:Nat):∀ (x i:Nat),([]:List (Nat×Nat))[x]? ≠ some (k,i):=by simp
theorem no_cons{olds:List (Nat×Nat)}{z k j:Nat}(h:z≠k)(t:∀ (x i:Nat),olds[x]? ≠ some (k,i)):∀ (x i:Nat),((z,j)::olds)[x]? ≠ some (k,i):=by
 intro x i
 cases x with
 | zero=>simp;intro e;exact absurd e h
 | succ x=>simpa using t x i
theorem Base.growIn{w:World}(h:Base B0 R0 olds w0 w):GrowS (fun k=>R0 k∧k<B0) w0 w:=h.grow
theorem Here.was{plan:List (Pl w0.heap.size R0 olds)}{i:Nat}{u:Nat→Got}{w:World}{ρ:Operand→Value}(h:Here ops a0 olds w0 plan i u w ρ)(φ:VP){v:Value}(near:List Nat)(h0:φ.p R0 v w0):φ.p (Settled R0 w0.heap.size near u) v w :=
 φ.mono (fun k hk hl=>.inl hl) (φ.grow h.base.growIn (φ.inS (Nat.le_refl _) h0))
theorem Settled.sub{l l': List Nat}{u:Nat→Got}(h:l.all (fun j=>l'.contains j)=true){k:Nat}(hs:Settled R0 B0 l u k):Settled R0 B0 l' u k:=by
 rcases hs with hs|⟨h0,j,hj,hs⟩
 ·exact .inl hs
 ·exact .inr ⟨h0,j,by simpa using List.all_eq_true.1 h j hj,hs⟩
theorem VP.sub(φ:VP){l:List Nat}(l': List Nat){u:Nat→Got}{v w}(h:φ.p (Settled R0 B0 l u) v w)(hl:l.all (fun j=>l'.contains j)=true):φ.p (Settled R0 B0 l' u) v w :=
 φ.mono (fun k _ hs=>hs.sub hl) h
theorem SV.any{i j:Nat}{near:List Nat}{φ:VP}{u:Nat→Got}{w:World}(h:(Pl.op none (SP.val (B0:=B0) (R0:=R0) (olds:=olds) i near φ)).fact j u w):φ.p Any (u i).v w:=φ.mono (fun _ _ _=>trivial) h
theorem SV.sub{i j:Nat}{near:List Nat}{φ:VP}{u:Nat→Got}{w:World}(l:List Nat)(h:(Pl.op none (SP.val (B0:=B0) (R0:=R0) (olds:=olds) i near φ)).fact j u w)(hl:(i::near).all (fun j=>l.contains j)=true):φ.p (Settled R0 B0 l u) (u i).v w:=φ.sub l h hl
theorem SP.ret{i:Nat}{near:List Nat}{φ:VP}{u:Nat→Got}{v:Value}{w w': World}(hB:B0≤w.heap.size)(hn:near.contains i=false)(h:φ.p (fun k=>Settled R0 B0 near u k∨w.heap.size≤k) v w'):(SP.val (B0:=B0) (R0:=R0) (olds:=olds) i near φ).p (upd u i ⟨v,w.heap.size,w'.heap.size⟩) w' := by
 show φ.p _ (upd u i ⟨v,w.heap.size,w'.heap.size⟩ i).v w'
 rw [upd_same]
 refine φ.mono (fun k hk hs=>?_) h
 rcases hs with (hs|⟨h0,j,hj,hs⟩)|hs
 ·exact .inl hs
 ·refine .inr ⟨h0,j,by simp [hj],?_⟩
  have hji:j≠i:=fun e=>by subst e;simp [hj] at hn
  rw [upd_other u _ hji];exact hs
 ·exact .inr ⟨Nat.le_trans hB hs,i,by simp,by rw [upd_same];exact⟨hs,hk⟩⟩
theorem SP.keep{i j:Nat}{near near': List Nat}{φ:VP}{u:Nat→Got}{w:World}(hij:(near'.contains i||(j == i)||near.contains i)=false)(hs:(j::near').all (fun x=>near.contains x)=true)(h:(SP.val (B0:=B0) (R0:=R0) (olds:=olds) j near' φ).p u w):(SP.val (B0:=B0) (R0:=R0) (olds:=olds) i near φ).p (upd u i ⟨(u j).v,w.heap.size,w.heap.size⟩) w:=by
 show φ.p _ (upd u i _ i).v w
 rw [upd_same]
 refine φ.mono (fun k hk hl=>?_) h
 rcases hl with hl|⟨h0,x,hx,hl⟩
 ·exact .inl hl
 ·have hx' : x ∈ near:=by simpa using List.all_eq_true.1 hs x hx
  refine .inr ⟨h0,x,by simp [hx'],?_⟩
  have:x≠i:=fun e=>by subst e;simp [hx'] at hij
  rw [upd_other u _ this];exact hl
theorem Does.same{i:Nat}{own:Option Nat}{u:Nat→Got}{w:World}:Does R0 olds i own u w w:=⟨rfl,rfl,rfl,Nat.le_refl _,fun _ _=>.inl rfl⟩
theorem Does.below{i:Nat}{own:Option Nat}{u:Nat→Got}{w w': World}(h:RowKit.Below w.heap.size w w'):Does R0 olds i own u w w' := ⟨h.os,h.tape,h.output,h.size,fun k hk=>.inl (h.block k hk)⟩
theorem wanted_none{o:Oper}(h:o.guard=none)(y:Nat→Option Bool):Region.wanted o y=true:=by simp [Region.wanted,h]
def Gd(ops:Array Oper)(a0:Act)(w0:World)(plan:List (Pl B0 R0 olds))(i:Nat)(o:Oper):Prop:=∀ u w ρ,Here ops a0 olds w0 plan i u w ρ→Region.wanted o (yielded ops (fill ops u ops.size a0).tmps)=true
theorem Gd.none{plan:List (Pl B0 R0 olds)}{i:Nat}{o:Oper}(h:o.guard=none):Gd ops a0 w0 plan i o:=fun _ _ _ _=>wanted_none h _
theorem TodoG.eq{k:Nat}{plan:List (Pl B0 R0 olds)}(i:Nat)(hi:plan.length=i)(o:Oper)(ho:ops[i]? = some o)(hg:Gd ops a0 w0 plan i o){V:Value}(h:∀ u w ρ,Here ops a0 olds w0 plan i u w ρ→(execOp ρ o).run P w=.ok (.value V) w)(rest:TodoG P ops a0 w0 F k (plan++[.op none (.eq i V)])):TodoG P ops a0 w0 F (k+1) plan:=by
 subst hi
 refine⟨.op none (.eq plan.length V),fun o' ho' u w ρ hE hB hO hf _=>.inr ⟨?_,.inl ⟨V,w,?_,congrArg Got.v (upd_same _ _ _),Does.same⟩⟩,rest⟩
 ·rw [ho] at ho';cases ho';exact hg u w ρ ⟨hE,hB,hO,hf⟩
 ·rw [ho] at ho';cases ho';exact h u w ρ ⟨hE,hB,hO,hf⟩
theorem TodoG.fn{k:Nat}{plan:List (Pl B0 R0 olds)}(i:Nat)(hi:plan.length=i)(o:Oper)(ho:ops[i]? = some o)(hg:Gd ops a0 w0 plan i o)(s:SP B0 R0 olds)(h:∀ u w ρ,Here ops a0 olds w0 plan i u w ρ→∃ v,(execOp ρ o).run P w=.ok (.value v) w∧s.p (upd u i ⟨v,w.heap.size,w.heap.size⟩) w)(rest:TodoG P ops a0 w0 F k (plan++[.op none s])):TodoG P ops a0 w0 F (k+1) plan:=by
 subst hi
 refine⟨.op none s,fun o' ho' u w ρ hE hB hO hf _=>?_,rest⟩
 rw [ho] at ho';cases ho'
 obtain⟨v,h1,h2⟩:=h u w ρ ⟨hE,hB,hO,hf⟩
 exact .inr ⟨hg u w ρ ⟨hE,hB,hO,hf⟩,.inl ⟨v,w,h1,h2,Does.same⟩⟩
theorem TodoG.alloc{k:Nat}{plan:List (Pl B0 R0 olds)}(i:Nat)(hi:plan.length=i)(o:Oper)(ho:ops[i]? = some o)(hg:o.guard=none){c:Array Value}{T:TypeId}(h:∀ u w ρ,Here ops a0 olds w0 plan i u w ρ→(execOp ρ o).run P w=.ok (.value (.pointer (some ⟨w.heap.size,0,none⟩))) (w.alloc (.cells c T (0,0))))(rest:TodoG P ops a0 w0 F k (plan++[.alloc c T])):TodoG P ops a0 w0 F (k+1) plan:=by
 subst hi
 refine⟨.alloc c T,fun o' ho' u w ρ hE hB hO hf _=>?_,rest⟩
 rw [ho] at ho';cases ho'
 exact⟨hg,h u w ρ ⟨hE,hB,hO,hf⟩⟩
def Amb(S:Nat→Prop)(W:World):Nat→Prop:=fun k=>S k∨W.heap.size≤k
theorem VP.amb(φ:VP){S:Nat→Prop}{W:World}{v w}(h:φ.p S v w):φ.p (Amb S W) v w:=φ.mono (fun _ _ h=>.inl h) h
theorem Base.growAll{w:World}(h:Base w0.heap.size R0 olds w0 w):GrowS R0 w0 w :=
 ⟨h.grow.os,h.grow.tape,h.grow.output,h.grow.size,fun k hk=>by
  rcases h.grow.block k hk with h1|h1|⟨h1,h2⟩
  ·exact .inl h1
  ·exact .inr (.inl h1)
  ·exact .inr (.inr ⟨h1,fun h3=>h2 ⟨h3,hk⟩⟩)⟩
theorem Base.one{w:World}(h:Base w0.heap.size R0 olds w0 w)(φ:VP){b:Nat}{v:Value}(hb:R0 b)(h0:φ.p (·=b) v w0):φ.p (·=b) v w:=by
 refine φ.grow ⟨h.grow.os,h.grow.tape,h.grow.output,h.grow.size,fun k hk=>?_⟩ h0
 rcases h.grow.block k hk with h1|h1|⟨h1,h2⟩
 ·exact .inl h1
 ·exact .inr (.inl h1)
 ·exact .inr (.inr ⟨h1,fun e=>by subst e;exact h2 ⟨hb,hk⟩⟩)
theorem ret_ok{fn:Func}{R:Ending→World→Prop}{a:Act}{w:World}{v:Value}(hd:a.defers=[])(hr:(results fn a.tmps).run P w=.ok v w)(h:R (.returned v) w):bodyPost P fn R .ret a w:=⟨hd,v,hr,h⟩
theorem results_row{fn:Func}{p ty:Nat}{tmps:Array Value}{w:World}{g:Nat}(hf:fn.results=#[.cell p ty])(hp:tmps.getD p undef=.pointer (some ⟨g,0,none⟩)){t:TypeId}{cs:Array Value}{fr:Nat×Nat}(hg:w.heap[g]? = some (.cells cs t fr)){d:TypeDesc}(hu:P.underlying ty=some d)(hd:(match d with|.struct _|.array _ _=>true|_=>false)=true)(hi:(P.info? ty).map (·.size)=some cs.size):(results fn tmps).run P w=.ok (.agg cs) w:=by
 have hp' : tmps[p]?.getD undef=.pointer (some ⟨g,0,none⟩):=by simpa using hp
 have hl:=run_loadVar_row (P:=P) w g t ty cs fr d hg hu hd hi
 simp only [results,hf]
 simp [hp', hl,asAddr]
def Ret(φ:VP)(S:Nat→Prop)(W:World)(e:Ending)(w': World):Prop :=
 ∃ v,e=.returned v∧φ.p (fun k=>S k∨W.heap.size≤k) v w'∧RowKit.Below W.heap.size W w'
theorem TodoG.call{k:Nat}{plan:List (Pl B0 R0 olds)}(i:Nat)(hi:plan.length=i)(o:Oper)(ho:ops[i]? = some o)(hg:Gd ops a0 w0 plan i o)(s:SP B0 R0 olds){f:FuncId}(h:∀ u w ρ,Here ops a0 olds w0 plan i u w ρ→∃ args,(execOp ρ o).run P w=.ok (.enter f args) w ∧
   Calls P f args w fun e w' => ∃ v,e=.returned v∧s.p (upd u i ⟨v,w.heap.size,w'.heap.size⟩) w'∧RowKit.Below w.heap.size w w')(rest:TodoG P ops a0 w0 F k (plan++[.op none s])):TodoG P ops a0 w0 F (k+1) plan:=by
 subst hi
 refine⟨.op none s,fun o' ho' u w ρ hE hB hO hf _=>.inr ⟨?_,.inr (.inr ?_)⟩,rest⟩
 ·rw [ho] at ho';cases ho';exact hg u w ρ ⟨hE,hB,hO,hf⟩
 ·rw [ho] at ho';cases ho'
  obtain⟨args,h1,h2⟩:=h u w ρ ⟨hE,hB,hO,hf⟩
  exact⟨f,args,h1,h2.mono fun e w' ⟨v,he,hp,hb⟩=>⟨v,he,hp,Does.below hb⟩⟩
structure Only (z:Nat) (w w' : World):Prop where
 os:w'.os=w.os
 tape:w'.tape=w.tape
 output:w'.output=w.output
 size:w.heap.size≤w'.heap.size
 block:∀ k,k<w.heap.size→k≠z→w'.heap[k]? = w.heap[k]?
theorem Only.refl(z:Nat)(w:World):Only z w w:=⟨rfl,rfl,rfl,Nat.le_refl _,fun _ _ _=>rfl⟩
theorem Only.trans{z:Nat}{a b c:World}(h:Only z a b)(g:Only z b c):Only z a c :=
 ⟨g.os.trans h.os,g.tape.trans h.tape,g.output.trans h.output,Nat.le_trans h.size g.size,fun k hk hz=>(g.block k (Nat.lt_of_lt_of_le hk h.size) hz).trans (h.block k hk hz)⟩
theorem Only.below{z:Nat}{w w': World}(h:RowKit.Below w.heap.size w w'):Only z w w' := ⟨h.os,h.tape,h.output,h.size,fun k hk _=>h.block k hk⟩
theorem Only.grow{z:Nat}{w w': World}(h:Only z w w')(hz:Soft w z∨Local w z):Grow w w' :=
 ⟨h.os,h.tape,h.output,h.size,fun k hk=>by
  by_cases e:k=z
  ·subst e;exact .inr hz
  ·exact .inl (h.block k hk e)⟩
theorem TodoG.callR{k:Nat}{plan:List (Pl B0 R0 olds)}(hB0:B0≤w0.heap.size)(i:Nat)(hi:plan.length=i)(o:Oper)(ho:ops[i]? = some o)(hg:Gd ops a0 w0 plan i o)(near:List Nat)(hn:near.contains i=false)(φ:VP){f:FuncId}(h:∀ u w ρ,Here ops a0 olds w0 plan i u w ρ→∃ args,(execOp ρ o).run P w=.ok (.enter f args) w∧Calls P f args w (Ret φ (Settled R0 B0 near u) w))(rest:TodoG P ops a0 w0 F k (plan++[.op none (.val i near φ)])):TodoG P ops a0 w0 F (k+1) plan:=by
 refine TodoG.call (f:=f) i hi o ho hg (.val i near φ) (fun u w ρ H=>?_) rest
 obtain⟨args,h1,h2⟩:=h u w ρ H
 exact⟨args,h1,h2.mono fun e w' ⟨v,he,hp,hb⟩=>⟨v,he,SP.ret (Nat.le_trans hB0 H.base.grow.size) hn hp,hb⟩⟩
theorem TodoG.callV{k:Nat}{plan:List (Pl B0 R0 olds)}(i:Nat)(hi:plan.length=i)(o:Oper)(ho:ops[i]? = some o)(hg:Gd ops a0 w0 plan i o){V:Value}{f:FuncId}(h:∀ u w ρ,Here ops a0 olds w0 plan i u w ρ→∃ args S,(execOp ρ o).run P w=.ok (.enter f args) w∧Calls P f args w (Ret (.is V) S w))(rest:TodoG P ops a0 w0 F k (plan++[.op none (.eq i V)])):TodoG P ops a0 w0 F (k+1) plan:=by
 refine TodoG.call (f:=f) i hi o ho hg (.eq i V) (fun u w ρ H=>?_) rest
 obtain⟨args,S,h1,h2⟩:=h u w ρ H
 exact⟨args,h1,h2.mono fun e w' ⟨v,he,hp,hb⟩=>⟨v,he,by show (upd u i _ i).v=V;rw [upd_same];exact hp,hb⟩⟩
theorem TodoG.callOwn{k:Nat}{plan:List (Pl B0 R0 olds)}(i m:Nat)(hi:plan.length=i)(o:Oper)(ho:ops[i]? = some o)(hg:o.guard=none){c:Array Value}{T:TypeId}(hm:plan[m]? = some (.alloc c T))(s:SP B0 R0 olds){f:FuncId}(h:∀ u w ρ b,Here ops a0 olds w0 plan i u w ρ→(u m).v=.pointer (some ⟨b,0,none⟩)→B0≤b→w.heap[b]? = some (.cells c T (0,0))→∃ args,(execOp ρ o).run P w=.ok (.enter f args) w ∧
   Calls P f args w fun e w' => ∃ v,e=.returned v∧s.p (upd u i ⟨v,w.heap.size,w'.heap.size⟩) w'∧Only b w w')(rest:TodoG P ops a0 w0 F k (plan++[.op (some m) s])):TodoG P ops a0 w0 F (k+1) plan:=by
 subst hi
 refine⟨.op (some m) s,fun o' ho' u w ρ hE hB hO hf hbl=>.inr ⟨?_,.inr (.inr ?_)⟩,rest⟩
 ·rw [ho] at ho';cases ho';exact wanted_none hg _
 ·rw [ho] at ho';cases ho'
  obtain⟨b,hb1,hb2,hb3⟩:=hbl m _ rfl hm
  have hb1:=congrArg Got.v hb1
  obtain⟨args,h1,h2⟩:=h u w ρ b ⟨hE,hB,hO,hf⟩ hb1 hb2 hb3
  refine⟨f,args,h1,h2.mono fun e w' ⟨v,he,hp,hb⟩=>⟨v,he,hp,⟨hb.os,hb.tape,hb.output,hb.size,fun k hk=>?_⟩⟩⟩
  by_cases hkb:k=b
  ·subst hkb;exact .inr (.inl ⟨m,rfl,hb1⟩)
  ·exact .inl (hb.block k hk hkb)
theorem TodoG.storeOwn{k:Nat}{plan:List (Pl B0 R0 olds)}(i m:Nat)(hi:plan.length=i)(o:Oper)(ho:ops[i]? = some o)(hg:o.guard=none){c:Array Value}{T:TypeId}(hm:plan[m]? = some (.alloc c T))(s:SP B0 R0 olds)(h:∀ u w ρ b,Here ops a0 olds w0 plan i u w ρ→(u m).v=.pointer (some ⟨b,0,none⟩)→B0≤b→w.heap[b]? = some (.cells c T (0,0))→∃ w', (execOp ρ o).run P w=.ok .skip w'∧(∀ g,s.p (upd u i g) w')∧Only b w w')(rest:TodoG P ops a0 w0 F k (plan++[.op (some m) s])):TodoG P ops a0 w0 F (k+1) plan:=by
 subst hi
 refine⟨.op (some m) s,fun o' ho' u w ρ hE hB hO hf hbl=>.inr ⟨?_,?_⟩,rest⟩
 ·rw [ho] at ho';cases ho';exact wanted_none hg _
 ·rw [ho] at ho';cases ho'
  obtain⟨b,hb1,hb2,hb3⟩:=hbl m _ rfl hm
  have hb1:=congrArg Got.v hb1
  obtain⟨w', h1,h2,hb⟩:=h u w ρ b ⟨hE,hB,hO,hf⟩ hb1 hb2 hb3
  refine .inr (.inl ⟨w', h1,h2 _,⟨hb.os,hb.tape,hb.output,hb.size,fun k hk=>?_⟩⟩)
  by_cases hkb:k=b
  ·subst hkb;exact .inr (.inl ⟨m,rfl,hb1⟩)
  ·exact .inl (hb.block k hk hkb)
theorem TodoG.storeOld{k:Nat}{plan:List (Pl B0 R0 olds)}(i x z:Nat)(hi:plan.length=i)(o:Oper)(ho:ops[i]? = some o)(hg:o.guard=none)(hx:olds[x]? = some (z,i))(hl:∃ c T fr,w0.heap[z]? = some (.cells c T fr)∧Loc T=true)(s:SP B0 R0 olds)(h:∀ u w ρ,Here ops a0 olds w0 plan i u w ρ→∃ w', (execOp ρ o).run P w=.ok .skip w'∧(∀ g,s.p (upd u i g) w')∧Only z w w')(rest:TodoG P ops a0 w0 F k (plan++[.op none s])):TodoG P ops a0 w0 F (k+1) plan:=by
 subst hi
 refine⟨.op none s,fun o' ho' u w ρ hE hB hO hf hbl=>.inr ⟨?_,?_⟩,rest⟩
 ·rw [ho] at ho';cases ho';exact wanted_none hg _
 ·rw [ho] at ho';cases ho'
  obtain⟨w', h1,h2,h3⟩:=h u w ρ ⟨hE,hB,hO,hf⟩
  refine .inr (.inl ⟨w', h1,h2 _,⟨h3.os,h3.tape,h3.output,h3.size,fun k hk=>?_⟩⟩)
  by_cases hkb:k=z
  ·subst hkb
   refine .inr (.inr ⟨⟨x,hx⟩,.inl ?_⟩)
   unfold Local
   rw [hO x k _ hx (.inl rfl)]
   exact hl
  ·exact .inl (h3.block k hk hkb)
def idleB(plan:List (Pl B0 R0 olds))(m:Nat):Bool:=plan.all fun q=>q.own != some m
structure Done (ops:Array Oper) (a0:Act) (w0:World) (plan:List (Pl B0 R0 olds)) (u:Nat→Got) (w:World):Prop where
 base:Base B0 R0 olds w0 w
 fact:∀ (j:Nat) (p:Pl B0 R0 olds),plan[j]? = some p→p.fact j u w
 idle:∀ (m:Nat) (p:Pl B0 R0 olds),plan[m]? = some p→p.isAlloc=true→(∀ (i:Nat) (q:Pl B0 R0 olds),plan[i]? = some q→q.own≠some m)→p.blank m u w
 apart:∀ (i j:Nat) (p q:Pl B0 R0 olds),plan[i]? = some p→plan[j]? = some q→p.isAlloc=true→q.isAlloc=true→i≠j→(u i).v≠(u j).v
 span:∀ i,i<plan.length→B0≤(u i).lo
theorem TodoG.done{plan:List (Pl B0 R0 olds)}(A:(Nat→Got)→Act)(hA:∀ u,fill ops u ops.size a0=A u)(hok:okB ops ws plan=true)(h:∀ u w,Done ops a0 w0 plan u w→Q .normal (A u) w):TodoG P ops a0 w0 (Todo P ops Q B0 R0 olds ws a0 w0 0) 0 plan:=⟨hok,fun u w h1 h2 h3 h4 h5=>by
 rw [hA]
 exact h u w ⟨h1,h2,h3,h4,h5⟩⟩
theorem TodoG.doneT{m:Nat}{plan:List (Pl B0 R0 olds)}(A:(Nat→Got)→Act)(hA:∀ u,(∀ t,plan.length≤t→u t=start ops a0 t)→fill ops u ops.size a0=A u)(hok:okB ops ws (plan++List.replicate m (.op none ⟨fun _ _=>True,[],[],[],[],fun _ _ _ _ _=>trivial,fun _ _ _ _ _=>trivial⟩))=true)(h:∀ u w,Done ops a0 w0 plan u w→wpList P ops Q (ops.toList.drop plan.length) (A u) w):TodoG P ops a0 w0 (TodoT P ops Q B0 R0 olds ws a0 w0 m 0) 0 plan:=⟨hok,fun u w h1 h2 h3 h4 h5 h6=>by
 rw [hA u h6]
 exact h u w ⟨h1,h2,h3,h4,h5⟩⟩
section
variable {plan:List (Pl B0 R0 olds)} {u:Nat→Got} {w:World} (h:Done ops a0 w0 plan u w)
include h
theorem Done.f(j:Nat){p:Pl B0 R0 olds}(hp:plan[j]? = some p):p.fact j u w:=h.fact j p hp
theorem Done.new(m:Nat){p:Pl B0 R0 olds}(hp:plan[m]? = some p)(ha:p.isAlloc=true)(hi:idleB plan m=true):p.blank m u w :=
 h.idle m p hp ha fun i q hq ho=>by
  have:=List.all_eq_true.1 hi q (List.mem_of_getElem? hq)
  simp [ho] at this
theorem Done.ne(i j:Nat){p q:Pl B0 R0 olds}(hp:plan[i]? = some p)(hq:plan[j]? = some q)(hpa:p.isAlloc=true)(hqa:q.isAlloc=true)(hij:(i == j)=false){b c:Nat}(hb:(u i).v=.pointer (some ⟨b,0,none⟩))(hc:(u j).v=.pointer (some ⟨c,0,none⟩)):b≠c:=fun e=>by
 subst e
 exact h.apart i j p q hp hq hpa hqa (by simpa using hij) (hb.trans hc.symm)
end
theorem Done.r{plan:List (Pl B0 R0 olds)}{u:Nat→Got}{w:World}(h:Done ops a0 w0 plan u w){S:Nat→Prop}(i:Nat){near:List Nat}{φ:VP}(hp:plan[i]? = some (.op none (.val i near φ)))(hS:∀ k,(R0 k∧k<B0)∨B0≤k→S k):φ.p S (u i).v w:=by
 refine φ.mono (fun k hk hs=>?_) (h.fact i _ hp)
 rcases hs with hs|⟨hs,_⟩
 ·exact hS k (.inl hs)
 ·exact hS k (.inr hs)
theorem lt_of{w:World}{k:Nat}{o:Obj}(h:w.heap[k]? = some o):k<w.heap.size:=by
 rcases Nat.lt_or_ge k w.heap.size with h'|h'
 ·exact h'
 ·rw [Array.getElem?_eq_none h'] at h;cases h
theorem Base.keep{w:World}{k:Nat}{o:Obj}(h:Base w0.heap.size R0 olds w0 w)(hk:w0.heap[k]? = some o)(hno:∀ (x i:Nat),olds[x]? ≠ some (k,i)):w.heap[k]? = some o:=by
 rw [h.block k (lt_of hk) hno];exact hk
theorem Base.keep0{w:World}{k:Nat}{o:Obj}(h:Base w0.heap.size R0 [] w0 w)(hk:w0.heap[k]? = some o):w.heap[k]? = some o:=h.keep hk (by simp)
theorem Base.bel0{W w:World}{n:Nat}(h:Base w0.heap.size R0 [] w0 w)(hb:RowKit.Below n W w0)(hn:n≤w0.heap.size):RowKit.Below n W w :=
 hb.trans ⟨h.grow.os,h.grow.tape,h.grow.output,h.grow.size,fun k hk=>h.block k (by omega) (by simp)⟩
theorem Base.bel{W w:World}{n:Nat}(h:Base w0.heap.size R0 olds w0 w)(hb:RowKit.Below n W w0)(hn:n≤w0.heap.size)(ho:∀ p ∈ olds,n≤p.1):RowKit.Below n W w :=
 hb.trans ⟨h.grow.os,h.grow.tape,h.grow.output,h.grow.size,fun k hk=>h.block k (by omega) (fun x i hx=>by have:=ho _ (List.mem_of_getElem? hx);simp at this;omega)⟩
theorem setCell_only(w:World)(a:Addr)(v:Value):Only a.block w (w.setCell a v) :=
 ⟨rfl,rfl,rfl,by simp [World.setCell],fun k hk hne=>by simp only [World.setCell,Array.getElem?_modify];rw [if_neg (Ne.symm hne)]⟩
theorem setCell_at{w:World}{b o:Nat}{v:Value}{c:Array Value}{T:TypeId}{fr:Nat×Nat}(h:w.heap[b]? = some (.cells c T fr)):(w.setCell ⟨b,o,none⟩ v).heap[b]? = some (.cells (c.setIfInBounds o v) T fr):=by
 simp [World.setCell,Array.getElem?_modify,h]
def toPlan(rp:List (Nat×Pl B0 R0 olds)):List (Pl B0 R0 olds):=(rp.map (·.2)).reverse
structure Wf (i:Nat) (rp:List (Nat×Pl B0 R0 olds)):Prop where
 len:(toPlan rp).length=i
 at_:∀ (j:Nat) (p:Pl B0 R0 olds),(j,p) ∈ rp→(toPlan rp)[j]? = some p
theorem Wf.nil:Wf 0 ([]:List (Nat×Pl B0 R0 olds)):=⟨rfl,fun _ _ h=>by cases h⟩
theorem Wf.cons{i:Nat}{rp:List (Nat×Pl B0 R0 olds)}(h:Wf i rp)(p:Pl B0 R0 olds):Wf (i+1) ((i,p)::rp):=by
 have e:toPlan ((i,p)::rp)=toPlan rp++[p]:=by simp [toPlan]
 refine⟨by rw [e];simp [h.len],fun j q hq=>?_⟩
 rw [e]
 rcases List.mem_cons.1 hq with hq|hq
 ·cases hq
  have:=h.len
  rw [List.getElem?_append_right (by omega)]
  simp [this]
 ·have h1:=h.at_ j q hq
  have h2:j<(toPlan rp).length:=(List.getElem?_eq_some_iff.1 h1).1
  rw [List.getElem?_append_left h2];exact h1
def Go2(P:Program)(ops:Array Oper){B0:Nat}{R0:Nat→Prop}{olds:List (Nat×Nat)}(a0:Act)(w0:World)(F:List (Pl B0 R0 olds)→Prop)(k i:Nat)(rp:List (Nat×Pl B0 R0 olds)):Prop :=
 Wf i rp→TodoG P ops a0 w0 F k (toPlan rp)
theorem Go2.next{k i:Nat}{rp:List (Nat×Pl B0 R0 olds)}{pl:Pl B0 R0 olds}(hwf:Wf i rp)(h:Go2 P ops a0 w0 F k (i+1) ((i,pl)::rp)):TodoG P ops a0 w0 F k (toPlan rp++[pl]):=by
 have:=h (hwf.cons pl)
 have e:toPlan ((i,pl)::rp)=toPlan rp++[pl]:=by simp [toPlan]
 rwa [e] at this
theorem go2_drawn0(n:Nat)(hn:ops.size=n)(R0:Nat→Prop)(olds:List (Nat×Nat))(ws:List Nat)(ho:Olds w0 olds ws)(hin:inB ops a0=true)(h:Go2 P ops a0 w0 (Todo P ops Q w0.heap.size R0 olds ws a0 w0 0) n 0 []):RegAny P ops Q a0 w0:=wp_region_plan n hn R0 olds ws ho hin (TodoG.todo _ _ (h Wf.nil))
theorem go2_seq0(n:Nat)(hn:ops.size=n)(R0:Nat→Prop)(olds:List (Nat×Nat))(ws:List Nat)(ho:Olds w0 olds ws)(hin:inB ops a0=true)(h:Go2 P ops a0 w0 (Todo P ops Q w0.heap.size R0 olds ws a0 w0 0) n 0 []):RegOps P ops Q a0 w0:=wp_region_plan_seq n hn R0 olds ws ho hin (TodoG.todo _ _ (h Wf.nil))
theorem go2_drawnT0(n m:Nat)(hn:ops.size=n+m)(hm0:0<m)(hB:(Region.sinkB .any ops n&&Region.chainB .any ops n&&Region.seqB .any ops m n (firsts n m))=true)(R0:Nat→Prop)(olds:List (Nat×Nat))(ws:List Nat)(ho:Olds w0 olds ws)(hin:inB ops a0=true)(h:Go2 P ops a0 w0 (TodoT P ops Q w0.heap.size R0 olds ws a0 w0 m 0) n 0 []):RegAny P ops Q a0 w0:=by
 simp only [Bool.and_eq_true] at hB
 exact wp_region_planT n m hn hm0 hB.1.1 hB.1.2 hB.2 R0 olds ws ho hin (TodoG.todoT _ _ (h Wf.nil))
theorem go2_seqT0(n m:Nat)(hn:ops.size=n+m)(R0:Nat→Prop)(olds:List (Nat×Nat))(ws:List Nat)(ho:Olds w0 olds ws)(hin:inB ops a0=true)(h:Go2 P ops a0 w0 (TodoT P ops Q w0.heap.size R0 olds ws a0 w0 m 0) n 0 []):RegOps P ops Q a0 w0:=wp_region_planT_seq n m hn R0 olds ws ho hin (TodoG.todoT _ _ (h Wf.nil))
theorem go2_drawn{id:Nat}(hm:P.follows .mixedOrders=true)(n:Nat)(hn:ops.size=n)(R0:Nat→Prop)(olds:List (Nat×Nat))(ws:List Nat)(ho:Olds w0 olds ws)(hin:inB ops a0=true)(h:Go2 P ops a0 w0 (Todo P ops Q w0.heap.size R0 olds ws a0 w0 0) n 0 []):(Code.region id ops true).wp P Q a0 w0:=wp_region_any hm (go2_drawn0 n hn R0 olds ws ho hin h)
theorem go2_seq{id:Nat}(n:Nat)(hn:ops.size=n)(R0:Nat→Prop)(olds:List (Nat×Nat))(ws:List Nat)(ho:Olds w0 olds ws)(hin:inB ops a0=true)(h:Go2 P ops a0 w0 (Todo P ops Q w0.heap.size R0 olds ws a0 w0 0) n 0 []):(Code.region id ops false).wp P Q a0 w0:=wp_region (go2_seq0 n hn R0 olds ws ho hin h)
theorem go2_drawnT{id:Nat}(hm:P.follows .mixedOrders=true)(n m:Nat)(hn:ops.size=n+m)(hm0:0<m)(hB:(Region.sinkB .any ops n&&Region.chainB .any ops n&&Region.seqB .any ops m n (firsts n m))=true)(R0:Nat→Prop)(olds:List (Nat×Nat))(ws:List Nat)(ho:Olds w0 olds ws)(hin:inB ops a0=true)(h:Go2 P ops a0 w0 (TodoT P ops Q w0.heap.size R0 olds ws a0 w0 m 0) n 0 []):(Code.region id ops true).wp P Q a0 w0:=wp_region_any hm (go2_drawnT0 n m hn hm0 hB R0 olds ws ho hin h)
theorem go2_seqT{id:Nat}(n m:Nat)(hn:ops.size=n+m)(R0:Nat→Prop)(olds:List (Nat×Nat))(ws:List Nat)(ho:Olds w0 olds ws)(hin:inB ops a0=true)(h:Go2 P ops a0 w0 (TodoT P ops Q w0.heap.size R0 olds ws a0 w0 m 0) n 0 []):(Code.region id ops false).wp P Q a0 w0:=wp_region (go2_seqT0 n m hn R0 olds ws ho hin h)
structure Here2 (ops:Array Oper) (a0:Act) (olds:List (Nat×Nat)) (w0:World) (rp:List (Nat×Pl B0 R0 olds)) (i:Nat) (u:Nat→Got) (w:World) (ρ:Operand→Value):Prop where
 here:Here ops a0 olds w0 (toPlan rp) i u w ρ
 wf:Wf i rp
section
variable {rp:List (Nat×Pl B0 R0 olds)} {i:Nat} {u:Nat→Got} {w:World} {ρ:Operand→Value} (h:Here2 ops a0 olds w0 rp i u w ρ)
include h
theorem Here2.s(t j:Nat)(hs:dstIdx ops t=some j):ρ (.tmp t)=(u j).v:=h.here.s t j hs
theorem Here2.e{V:Value}(t j:Nat)(hs:dstIdx ops t=some j)(hf:(u j).v=V):ρ (.tmp t)=V:=h.here.e t j hs hf
theorem Here2.s0(t:Nat)(hs:dstIdx ops t=none):ρ (.tmp t)=a0.tmps.getD t undef:=h.here.s0 t hs
theorem Here2.func(f:FuncId):ρ (.func f)=.func (.func f) #[] #[]:=h.here.env.func f
theorem Here2.const(v:Value):ρ (.const v)=v:=h.here.env.const v
theorem Here2.f{j:Nat}{p:Pl B0 R0 olds}(hp:(j,p) ∈ rp)(hb:pre ops i j=true):p.fact j u w:=h.here.f j (h.wf.at_ j p hp) hb
theorem Here2.blk{k:Nat}{o:Obj}(hk:w0.heap[k]? = some o)(hB:w0.heap.size≤B0)(hno:∀ (x i:Nat),olds[x]? ≠ some (k,i)):w.heap[k]? = some o:=h.here.blk hk hB hno
theorem Here2.blkOld{k:Nat}{o:Obj}(hk:w0.heap[k]? = some o)(x i': Nat)(hx:olds[x]? = some (k,i'))(hor:i'=i∨pre ops i' i=true):w.heap[k]? = some o:=h.here.blkOld hk x i' hx hor
end
theorem Here2.was{rp:List (Nat×Pl w0.heap.size R0 olds)}{i:Nat}{u:Nat→Got}{w:World}{ρ:Operand→Value}(h:Here2 ops a0 olds w0 rp i u w ρ)(φ:VP){v:Value}(near:List Nat)(h0:φ.p R0 v w0):φ.p (Settled R0 w0.heap.size near u) v w :=
 h.here.was φ near h0
def Gd2(ops:Array Oper)(a0:Act)(w0:World)(rp:List (Nat×Pl B0 R0 olds))(i:Nat)(o:Oper):Prop:=∀ u w ρ,Here2 ops a0 olds w0 rp i u w ρ→Region.wanted o (yielded ops (fill ops u ops.size a0).tmps)=true
theorem G0{rp:List (Nat×Pl B0 R0 olds)}{i:Nat}{o:Oper}(h:o.guard=none):Gd2 ops a0 w0 rp i o:=fun _ _ _ _=>wanted_none h _
theorem yielded_at{u:Nat→Got}{k:Nat}{d:Tmp}{b:Bool}(hd:dstOf ops k=some d)(h:(fill ops u ops.size a0).tmps.getD d undef=.bool b):yielded ops (fill ops u ops.size a0).tmps k=some b:=by
 unfold dstOf at hd
 simp only [yielded,hd,Option.bind_some]
 rw [Array.getD_eq_getD_getElem?] at h
 cases hx:(fill ops u ops.size a0).tmps[d]? with
 | none=>rw [hx] at h;cases h
 | some x=>rw [hx] at h;simp only [Option.getD_some] at h;subst h;rfl
theorem G1{rp:List (Nat×Pl B0 R0 olds)}{i:Nat}{o:Oper}(k:Nat)(b:Bool)(d:Tmp)(h:o.guard=some (k,b))(hd:dstOf ops k=some d)(hB:(apartB ops&&inB ops a0&&decide (k<ops.size))=true)(hf:∀ u w ρ,Here2 ops a0 olds w0 rp i u w ρ→(u k).v=.bool b):Gd2 ops a0 w0 rp i o:=fun u w ρ H=>by
 simp only [Bool.and_eq_true,decide_eq_true_eq] at hB
 have h1:=fill_some hB.1.1 u a0 hB.1.2 d k hd hB.2 ops.size hB.2 (Nat.le_refl _)
 rw [hf u w ρ H] at h1
 simp [Region.wanted,h,yielded_at hd h1]
theorem Go2.skip{k i:Nat}{rp:List (Nat×Pl B0 R0 olds)}{o:Oper}(ho:ops[i]? = some o)(q:Nat)(b:Bool)(d:Tmp)(h:o.guard=some (q,!b))(hd:dstOf ops q=some d)(hB:(apartB ops&&inB ops a0&&decide (q<ops.size))=true)(hf:∀ u w ρ,Here2 ops a0 olds w0 rp i u w ρ→(u q).v=.bool b)(rest:Go2 P ops a0 w0 F k (i+1) ((i,.op none SP.triv)::rp)):Go2 P ops a0 w0 F (k+1) i rp:=fun hwf=>by
 refine⟨.op none SP.triv,fun o' ho' u w ρ hE hB' hO hfa _=>.inl ⟨?_,trivial⟩,Go2.next hwf rest⟩
 rw [hwf.len] at *
 rw [ho] at ho';cases ho'
 simp only [Bool.and_eq_true,decide_eq_true_eq] at hB
 have h1:=fill_some hB.1.1 u a0 hB.1.2 d q hd hB.2 ops.size hB.2 (Nat.le_refl _)
 rw [hf u w ρ ⟨⟨hE,hB', hO,hfa⟩,hwf⟩] at h1
 simp [Region.wanted,h,yielded_at hd h1]
theorem Go2.eq{k i:Nat}{rp:List (Nat×Pl B0 R0 olds)}{o:Oper}(ho:ops[i]? = some o)(hg:Gd2 ops a0 w0 rp i o){V:Value}(h:∀ u w ρ,Here2 ops a0 olds w0 rp i u w ρ→(execOp ρ o).run P w=.ok (.value V) w)(rest:Go2 P ops a0 w0 F k (i+1) ((i,.op none (.eq i V))::rp)):Go2 P ops a0 w0 F (k+1) i rp:=fun hwf =>
 TodoG.eq i hwf.len o ho (fun u w ρ H=>hg u w ρ ⟨H,hwf⟩) (fun u w ρ H=>h u w ρ ⟨H,hwf⟩) (Go2.next hwf rest)
theorem Go2.fn{k i:Nat}{rp:List (Nat×Pl B0 R0 olds)}{o:Oper}(ho:ops[i]? = some o)(hg:Gd2 ops a0 w0 rp i o)(s:SP B0 R0 olds)(h:∀ u w ρ,Here2 ops a0 olds w0 rp i u w ρ→∃ v,(execOp ρ o).run P w=.ok (.value v) w∧s.p (upd u i ⟨v,w.heap.size,w.heap.size⟩) w)(rest:Go2 P ops a0 w0 F k (i+1) ((i,.op none s)::rp)):Go2 P ops a0 w0 F (k+1) i rp:=fun hwf =>
 TodoG.fn i hwf.len o ho (fun u w ρ H=>hg u w ρ ⟨H,hwf⟩) s (fun u w ρ H=>h u w ρ ⟨H,hwf⟩) (Go2.next hwf rest)
theorem Go2.alloc{k i:Nat}{rp:List (Nat×Pl B0 R0 olds)}{o:Oper}(ho:ops[i]? = some o)(hg:o.guard=none){c:Array Value}{T:TypeId}(h:∀ u w ρ,Here2 ops a0 olds w0 rp i u w ρ→(execOp ρ o).run P w=.ok (.value (.pointer (some ⟨w.heap.size,0,none⟩))) (w.alloc (.cells c T (0,0))))(rest:Go2 P ops a0 w0 F k (i+1) ((i,.alloc c T)::rp)):Go2 P ops a0 w0 F (k+1) i rp:=fun hwf =>
 TodoG.alloc i hwf.len o ho hg (fun u w ρ H=>h u w ρ ⟨H,hwf⟩) (Go2.next hwf rest)
theorem Go2.callR{k i:Nat}{rp:List (Nat×Pl w0.heap.size R0 olds)}{o:Oper}(ho:ops[i]? = some o)(hg:Gd2 ops a0 w0 rp i o)(near:List Nat)(hn:near.contains i=false)(φ:VP){f:FuncId}(h:∀ u w ρ,Here2 ops a0 olds w0 rp i u w ρ→∃ args,(execOp ρ o).run P w=.ok (.enter f args) w∧Calls P f args w (Ret φ (Settled R0 w0.heap.size near u) w))(rest:Go2 P ops a0 w0 F0 k (i+1) ((i,.op none (.val i near φ))::rp)):Go2 P ops a0 w0 F0 (k+1) i rp:=fun hwf =>
 TodoG.callR (Nat.le_refl _) i hwf.len o ho (fun u w ρ H=>hg u w ρ ⟨H,hwf⟩) near hn φ (fun u w ρ H=>h u w ρ ⟨H,hwf⟩) (Go2.next hwf rest)
theorem Go2.callV{k i:Nat}{rp:List (Nat×Pl B0 R0 olds)}{o:Oper}(ho:ops[i]? = some o)(hg:Gd2 ops a0 w0 rp i o){V:Value}{f:FuncId}(h:∀ u w ρ,Here2 ops a0 olds w0 rp i u w ρ→∃ args S,(execOp ρ o).run P w=.ok (.enter f args) w∧Calls P f args w (Ret (.is V) S w))(rest:Go2 P ops a0 w0 F k (i+1) ((i,.op none (.eq i V))::rp)):Go2 P ops a0 w0 F (k+1) i rp:=fun hwf =>
 TodoG.callV i hwf.len o ho (fun u w ρ H=>hg u w ρ ⟨H,hwf⟩) (fun u w ρ H=>h u w ρ ⟨H,hwf⟩) (Go2.next hwf rest)
theorem Go2.callOwn{k i m:Nat}{rp:List (Nat×Pl B0 R0 olds)}{o:Oper}(ho:ops[i]? = some o)(hg:o.guard=none){c:Array Value}{T:TypeId}(hm:(m,.alloc c T) ∈ rp)(s:SP B0 R0 olds){f:FuncId}(h:∀ u w ρ b,Here2 ops a0 olds w0 rp i u w ρ→(u m).v=.pointer (some ⟨b,0,none⟩)→B0≤b→w.heap[b]? = some (.cells c T (0,0))→∃ args,(execOp ρ o).run P w=.ok (.enter f args) w ∧
   Calls P f args w fun e w' => ∃ v,e=.returned v∧s.p (upd u i ⟨v,w.heap.size,w'.heap.size⟩) w'∧Only b w w')(rest:Go2 P ops a0 w0 F k (i+1) ((i,.op (some m) s)::rp)):Go2 P ops a0 w0 F (k+1) i rp:=fun hwf =>
 TodoG.callOwn i m hwf.len o ho hg (hwf.at_ _ _ hm) s (fun u w ρ b H=>h u w ρ b ⟨H,hwf⟩) (Go2.next hwf rest)
theorem Go2.storeOwn{k i m:Nat}{rp:List (Nat×Pl B0 R0 olds)}{o:Oper}(ho:ops[i]? = some o)(hg:o.guard=none){c:Array Value}{T:TypeId}(hm:(m,.alloc c T) ∈ rp)(s:SP B0 R0 olds)(h:∀ u w ρ b,Here2 ops a0 olds w0 rp i u w ρ→(u m).v=.pointer (some ⟨b,0,none⟩)→B0≤b→w.heap[b]? = some (.cells c T (0,0))→∃ w', (execOp ρ o).run P w=.ok .skip w'∧(∀ g,s.p (upd u i g) w')∧Only b w w')(rest:Go2 P ops a0 w0 F k (i+1) ((i,.op (some m) s)::rp)):Go2 P ops a0 w0 F (k+1) i rp:=fun hwf =>
 TodoG.storeOwn i m hwf.len o ho hg (hwf.at_ _ _ hm) s (fun u w ρ b H=>h u w ρ b ⟨H,hwf⟩) (Go2.next hwf rest)
theorem Go2.storeOld{k i:Nat}{rp:List (Nat×Pl B0 R0 olds)}(x z:Nat){o:Oper}(ho:ops[i]? = some o)(hg:o.guard=none)(hx:olds[x]? = some (z,i))(hl:∃ c T fr,w0.heap[z]? = some (.cells c T fr)∧Loc T=true)(s:SP B0 R0 olds)(h:∀ u w ρ,Here2 ops a0 olds w0 rp i u w ρ→∃ w', (execOp ρ o).run P w=.ok .skip w'∧(∀ g,s.p (upd u i g) w')∧Only z w w')(rest:Go2 P ops a0 w0 F k (i+1) ((i,.op none s)::rp)):Go2 P ops a0 w0 F (k+1) i rp:=fun hwf =>
 TodoG.storeOld i x z hwf.len o ho hg hx hl s (fun u w ρ H=>h u w ρ ⟨H,hwf⟩) (Go2.next hwf rest)
structure Done2 (ops:Array Oper) (a0:Act) (w0:World) (n:Nat) (rp:List (Nat×Pl B0 R0 olds)) (u:Nat→Got) (w:World):Prop where
 done:Done ops a0 w0 (toPlan rp) u w
 wf:Wf n rp
theorem Go2.done{n:Nat}{rp:List (Nat×Pl B0 R0 olds)}(A:(Nat→Got)→Act)(hA:∀ u,fill ops u ops.size a0=A u)(hok:okB ops ws (toPlan rp)=true)(h:∀ u w,Done2 ops a0 w0 n rp u w→Q .normal (A u) w):Go2 P ops a0 w0 (Todo P ops Q B0 R0 olds ws a0 w0 0) 0 n rp:=fun hwf =>
 TodoG.done A hA hok (fun u w D=>h u w ⟨D,hwf⟩)
theorem Go2.doneT{m n:Nat}{rp:List (Nat×Pl B0 R0 olds)}(A:(Nat→Got)→Act)(hA:∀ u,(∀ t,n≤t→u t=start ops a0 t)→fill ops u ops.size a0=A u)(hok:okB ops ws (toPlan rp++List.replicate m (.op none ⟨fun _ _=>True,[],[],[],[],fun _ _ _ _ _=>trivial,fun _ _ _ _ _=>trivial⟩))=true)(tail:List Oper)(htail:ops.toList.drop n=tail)(h:∀ u w,Done2 ops a0 w0 n rp u w→wpList P ops Q tail (A u) w):Go2 P ops a0 w0 (TodoT P ops Q B0 R0 olds ws a0 w0 m 0) 0 n rp:=fun hwf =>
 TodoG.doneT A (by rw [hwf.len];exact hA) hok (fun u w D=>by rw [hwf.len,htail];exact h u w ⟨D,hwf⟩)
section
variable {n:Nat} {rp:List (Nat×Pl B0 R0 olds)} {u:Nat→Got} {w:World} (h:Done2 ops a0 w0 n rp u w)
include h
theorem Done2.base:Base B0 R0 olds w0 w:=h.done.base
theorem Done2.f{j:Nat}{p:Pl B0 R0 olds}(hp:(j,p) ∈ rp):p.fact j u w:=h.done.f j (h.wf.at_ j p hp)
theorem Done2.new{m:Nat}{c:Array Value}{T:TypeId}(hp:(m,Pl.alloc c T) ∈ rp)(hi:idleB (toPlan rp) m=true):(Pl.alloc (B0:=B0) (R0:=R0) (olds:=olds) c T).blank m u w:=h.done.new m (h.wf.at_ _ _ hp) rfl hi
theorem Done2.ne{i j:Nat}{c c': Array Value}{T T': TypeId}(hp:(i,Pl.alloc c T) ∈ rp)(hq:(j,Pl.alloc c' T') ∈ rp)(hij:(i == j)=false){b d:Nat}(hb:(u i).v=.pointer (some ⟨b,0,none⟩))(hc:(u j).v=.pointer (some ⟨d,0,none⟩)):b≠d:=h.done.ne i j (h.wf.at_ _ _ hp) (h.wf.at_ _ _ hq) rfl rfl hij hb hc
theorem Done2.r{S:Nat→Prop}{i:Nat}{near:List Nat}{φ:VP}(hp:(i,.op none (.val i near φ)) ∈ rp)(hS:∀ k,(R0 k∧k<B0)∨B0≤k→S k):φ.p S (u i).v w :=
 h.done.r i (h.wf.at_ _ _ hp) hS
end
theorem ex_call{ρ:Operand→Value}{o:Oper}{w:World}{f:FuncId}{xs:Array Operand}{ats:Array TypeId}{args:Array Value}(ho:o.op=.call { callee:=.value (.func f),args:=xs,argTypes:=ats })(hf:ρ (.func f)=.func (.func f) #[] #[]){fn:Func}(hfn:P.funcs[f]? = some fn)(hname:(fn.name == "runtime.NumGoroutine")=false)(hb:fn.body.isNone=false)(hx:xs.map ρ=args):(execOp ρ o).run P w=.ok (.enter f args) w:=by
 subst hx
 have h1:execOp ρ o=callFunc f (#[]++xs.map ρ++#[]):=by
  unfold execOp
  simp only [ho,resolve,hf,Deferred.ofValue]
  rfl
 rw [h1]
 simp only [callFunc,Sem.run_bind]
 simp only [program,Sem.run,hfn,Result.andThen_ok]
 rw [if_neg (by simp [hname]),if_neg (by simp [hb])]
 simp [Sem.run,pure]
end
end Go.Proofs.YtcdbmjnipaochaaGreat.Rgn
namespace Go.Proofs.YtcdbmjnipaochaaGreat
structure Cx where
 re:Rat
 im:Rat
 deriving DecidableEq
namespace Cx
theorem ext'{z w:Cx}(h1:z.re=w.re)(h2:z.im=w.im):z=w:=by cases z;cases w;cases h1;cases h2;rfl
@[reducible] def add(z w:Cx):Cx:=⟨z.re+w.re,z.im+w.im⟩
@[reducible] def sub(z w:Cx):Cx:=⟨z.re-w.re,z.im-w.im⟩
@[reducible] def neg(z:Cx):Cx:=⟨-z.re,-z.im⟩
@[reducible] def mul(z w:Cx):Cx:=⟨z.re*w.re-z.im*w.im,z.re*w.im+z.im*w.re⟩
@[reducible] def conj(z:Cx):Cx:=⟨z.re,-z.im⟩
@[reducible] def scale(z:Cx)(r:Rat):Cx:=⟨z.re*r,z.im*r⟩
@[reducible] def norm(z:Cx):Rat:=z.re*z.re+z.im*z.im
@[reducible] def div(z w:Cx):Cx:=(z.mul w.conj).scale (w.norm)⁻¹
@[reducible] def ofInt(a b:Int):Cx:=⟨(a:Rat),(b:Rat)⟩
instance:Add Cx:=⟨add⟩
instance:Sub Cx:=⟨sub⟩
instance:Neg Cx:=⟨neg⟩
instance:Mul Cx:=⟨mul⟩
instance:Div Cx:=⟨div⟩
end Cx
def bl(n:Nat):Nat:=if n=0 then 0 else n.log2+1
theorem bl_le{n k:Nat}:bl n≤k↔n<2^k:=by
 unfold bl
 by_cases h:n=0
 ·subst h;simp;exact Nat.pow_pos (by decide)
 ·rw [if_neg h,Nat.add_one_le_iff,Nat.log2_lt h]
theorem lt_bl(n:Nat):n<2^bl n:=bl_le.1 (Nat.le_refl _)
theorem bl_mono{m n:Nat}(h:m≤n):bl m≤bl n:=bl_le.2 (Nat.lt_of_le_of_lt h (lt_bl n))
theorem bl_mul(m n:Nat):bl (m*n)≤bl m+bl n:=by
 apply bl_le.2
 rw [Nat.pow_add]
 exact Nat.mul_lt_mul'' (lt_bl m) (lt_bl n)
theorem bl_add(m n:Nat):bl (m+n)≤max (bl m) (bl n)+1:=by
 apply bl_le.2
 have h1:m<2^max (bl m) (bl n):=bl_le.1 (Nat.le_max_left _ _)
 have h2:n<2^max (bl m) (bl n):=bl_le.1 (Nat.le_max_right _ _)
 rw [Nat.pow_succ];omega
def hi(n:Int):Nat:=bl n.natAbs+1
def ht(q:Rat):Nat:=max (bl q.num.natAbs) (bl q.den)+1
theorem hi_mul(m n:Int):hi (m*n)≤hi m+hi n:=by
 unfold hi;rw [Int.natAbs_mul];have:=bl_mul m.natAbs n.natAbs;omega
theorem hi_add(m n:Int):hi (m+n)≤hi m+hi n:=by
 unfold hi
 have h1:bl (m+n).natAbs≤bl (m.natAbs+n.natAbs):=bl_mono (by omega)
 have h2:=bl_add m.natAbs n.natAbs
 have h3:max (bl m.natAbs) (bl n.natAbs)≤bl m.natAbs+bl n.natAbs:=by omega
 omega
theorem hi_neg(m:Int):hi (-m)=hi m:=by simp [hi]
theorem hi_sub(m n:Int):hi (m-n)≤hi m+hi n:=by
 have:=hi_add m (-n);rw [hi_neg] at this;rwa [Int.sub_eq_add_neg]
theorem ht_num(q:Rat):bl q.num.natAbs<ht q:=by unfold ht;omega
theorem ht_den(q:Rat):bl q.den<ht q:=by unfold ht;omega
theorem ht_of{q:Rat}{n:Nat}(h1:bl q.num.natAbs≤n)(h2:bl q.den≤n):ht q≤n+1:=by unfold ht;omega
theorem ht_mkRat(a:Int)(b:Nat)(hb:b≠0){n:Nat}(h1:bl a.natAbs≤n)(h2:bl b≤n):ht (mkRat a b)≤n+1:=by
 refine ht_of ?_ ?_
 ·refine Nat.le_trans (bl_mono ?_) h1
  rw [Rat.num_mkRat]
  split
  ·exact absurd ‹_› hb
  ·exact Int.natAbs_ediv_le_natAbs ..
 ·refine Nat.le_trans (bl_mono ?_) h2
  rw [Rat.den_mkRat]
  split
  ·exact absurd ‹_› hb
  ·exact Nat.div_le_self ..
theorem ht_pos(q:Rat):2≤ht q:=by
 have h:0<q.den:=q.den_pos
 have:1≤bl q.den:=by
  unfold bl;rw [if_neg (by omega)];omega
 unfold ht;omega
theorem ht_add(p q:Rat):ht (p+q)≤ht p+ht q:=by
 rw [Rat.add_def']
 have hp:=ht_num p;have hq:=ht_num q;have hp' := ht_den p;have hq' := ht_den q
 refine Nat.le_trans (ht_mkRat _ _ (Nat.mul_ne_zero p.den_nz q.den_nz) (n:=ht p+ht q-1) ?_ ?_) (by have:=ht_pos p;omega)
 ·have h1:(p.num*q.den+q.num*p.den).natAbs≤p.num.natAbs*q.den+q.num.natAbs*p.den:=by
   refine Nat.le_trans (Int.natAbs_add_le _ _) ?_
   rw [Int.natAbs_mul,Int.natAbs_mul];exact Nat.le_refl _
  have h2:=bl_add (p.num.natAbs*q.den) (q.num.natAbs*p.den)
  have h3:=bl_mul p.num.natAbs q.den
  have h4:=bl_mul q.num.natAbs p.den
  have h5:=bl_mono h1
  omega
 ·have:=bl_mul p.den q.den;omega
theorem ht_neg(p:Rat):ht (-p)=ht p:=by unfold ht;rw [Rat.neg_num,Rat.neg_den,Int.natAbs_neg]
theorem ht_sub(p q:Rat):ht (p-q)≤ht p+ht q:=by
 rw [Rat.sub_eq_add_neg];have:=ht_add p (-q);rwa [ht_neg] at this
theorem ht_mul(p q:Rat):ht (p*q)≤ht p+ht q:=by
 rw [Rat.mul_def']
 have hp:=ht_num p;have hq:=ht_num q;have hp' := ht_den p;have hq' := ht_den q
 refine Nat.le_trans (ht_mkRat _ _ (Nat.mul_ne_zero p.den_nz q.den_nz) (n:=ht p+ht q-1) ?_ ?_) (by have:=ht_pos p;omega)
 ·rw [Int.natAbs_mul];have:=bl_mul p.num.natAbs q.num.natAbs;omega
 ·have:=bl_mul p.den q.den;omega
theorem ht_inv(p:Rat):ht p⁻¹=ht p:=by
 by_cases h:p=0
 ·subst h;rw [Rat.inv_zero]
 ·have hn:p.num≠0:=fun e=>h (by rw [← Rat.num_eq_zero];exact e)
  unfold ht
  rw [Rat.num_inv,Rat.den_inv,if_neg hn,Int.natAbs_mul,Int.natAbs_sign_of_ne_zero hn]
  simp;omega
theorem ht_div(p q:Rat):ht (p/q)≤ht p+ht q:=by
 rw [Rat.div_def];have:=ht_mul p q⁻¹;rwa [ht_inv] at this
theorem ht_int(n:Int):ht (n:Rat)=max (bl n.natAbs) 1+1:=by
 unfold ht;rw [Rat.num_intCast,Rat.den_intCast];rfl
theorem ht_int_le(n:Int):ht (n:Rat)≤hi n+1:=by rw [ht_int];unfold hi;omega
end Go.Proofs.YtcdbmjnipaochaaGreat
namespace Go.Proofs.YtcdbmjnipaochaaGreat
open Go.RowKit Rgn
def val:List Nat→Nat
 | []=>0
 | x::l=>x+4294967296*val l
def Words(w:World)(v:Value)(l:List Nat):Prop :=
 (v=.slice none 0 0∧l=[]) ∨
 ∃ b off cap cur fr,v=.slice (some ⟨b,off,none⟩) l.length cap∧w.heap[b]? = some (.cells cur 315 fr)∧l.length≤cap∧cap≤9223372036854775807 ∧
  ∀ i x,l[i]? = some x→cur[off+i]? = some (.int .u32 (x:Nat))∧x<4294967296
def Canon(l:List Nat):Prop:=l.getLast? ≠ some 0
def sgn(neg:Bool)(n:Nat):Int:=if neg then -(n:Int) else n
def Mag(w:World)(v:Value)(n:Nat):Prop:=∃ l,Words w v l∧Canon l∧val l=n
theorem Words.grow{S w w' v l}(hw:Words w v l)(h:GrowS S w w'):Words w' v l:=by
 rcases hw with hw|⟨b,off,cap,cur,fr,h1,h2,h3,h4,h5⟩
 ·exact .inl hw
 ·refine .inr ⟨b,off,cap,cur,fr,h1,?_,h3,h4,h5⟩
  rcases h.block b (lt_of h2) with hb|⟨c,T,fr', hb,hT⟩|⟨⟨c,T,hb,hT⟩,_⟩
  ·rw [hb];exact h2
  ·rw [h2] at hb;cases hb;exact absurd hT (by decide)
  ·rw [h2] at hb;cases hb;simp at hT
theorem Mag.grow{S w w' v n}(hw:Mag w v n)(h:GrowS S w w'):Mag w' v n:=by
 obtain⟨l,h1,h2⟩:=hw;exact⟨l,h1.grow h,h2⟩
theorem Words.isPtr{w v l}(h:Words w v l)(hne:l≠[]):∃ a n c,v=.slice (some a) n c:=by
 rcases h with⟨_,h⟩|⟨b,off,cap,cur,fr,h1,_⟩
 ·exact absurd h hne
 ·exact⟨_,_,_,h1⟩
theorem Mag.isPtr{w v n}(h:Mag w v n)(hn:n≠0):∃ a m c,v=.slice (some a) m c:=by
 obtain⟨l,h1,h2,h3⟩:=h
 exact h1.isPtr (fun e=>by subst e;exact hn h3.symm)
def MagP(n:Nat):VP:=⟨fun _ v w=>Mag w v n,fun _ h=>h,fun h hp=>hp.grow h⟩
def RawP(n:Nat):VP:=⟨fun _ v w=>∃ l,Words w v l∧val l=n,fun _ h=>h,fun h ⟨l,h1,h2⟩=>⟨l,h1.grow h,h2⟩⟩
def NumT(T:TypeId):Bool:=T == 212||T == 210
theorem numT_not{T:TypeId}(h:NumT T=true):Rgn.Loc T=false∧(T == 315)=false:=by
 simp only [NumT,Bool.or_eq_true,beq_iff_eq] at h
 rcases h with rfl|rfl<;>exact⟨by decide,by decide⟩
def IntIn(w:World)(b off:Nat)(n:Int):Prop :=
 ∃ c T v,w.heap[b]? = some (.cells c T (0,0))∧NumT T=true∧c[off]? = some (.bool (decide (n<0)))∧c[off+1]? = some v∧Mag w v n.natAbs
def RatAt(w:World)(b:Nat)(q:Rat):Prop :=
 ∃ v1 v2,w.heap[b]? = some (.cells #[.bool (decide (q.num<0)),v1,.bool false,v2] 212 (0,0))∧Mag w v1 q.num.natAbs∧Mag w v2 q.den
def RatZ(w:World)(b:Nat):Prop:=w.heap[b]? = some (.cells #[.bool false,.slice none 0 0,.bool false,.slice none 0 0] 212 (0,0))
theorem Rgn.GrowS.num{S:Nat→Prop}{w w': World}(h:GrowS S w w'){b:Nat}(hS:S b){c:Array Value}{T:TypeId}{fr:Nat×Nat}(hb:w.heap[b]? = some (.cells c T fr))(hT:NumT T=true):w'.heap[b]? = some (.cells c T fr):=by
 rcases h.block b (lt_of hb) with h1|⟨c', T', fr', h1,h2⟩|⟨_,h1⟩
 ·rw [h1];exact hb
 ·rw [hb] at h1;cases h1;rw [(numT_not hT).1] at h2;cases h2
 ·exact absurd hS h1
theorem IntIn.grow{S w w' b off n}(hi:IntIn w b off n)(hS:S b)(h:GrowS S w w'):IntIn w' b off n:=by
 obtain⟨c,T,v,h1,h2,h3,h4,h5⟩:=hi
 exact⟨c,T,v,h.num hS h1 h2,h2,h3,h4,h5.grow h⟩
theorem RatAt.grow{S w w' b q}(hi:RatAt w b q)(hS:S b)(h:GrowS S w w'):RatAt w' b q:=by
 obtain⟨v1,v2,h1,h2,h3⟩:=hi
 exact⟨v1,v2,h.num hS h1 rfl,h2.grow h,h3.grow h⟩
theorem RatZ.grow{S:Nat→Prop}{w w': World}{b:Nat}(hi:RatZ w b)(hS:S b)(h:GrowS S w w'):RatZ w' b:=h.num hS hi rfl
def IntP(n:Int):VP :=
  ⟨fun S v w=>∃ b off,v=.pointer (some ⟨b,off,none⟩)∧S b∧IntIn w b off n,
   fun {S S' v w} hS ⟨b,off,h1,h2,h3⟩=>⟨b,off,h1,hS b (by obtain⟨c,T,v,h4,_⟩:=h3;exact lt_of h4) h2,h3⟩,
   fun {S v w w'} h ⟨b,off,h1,h2,h3⟩=>⟨b,off,h1,h2,h3.grow h2 h⟩⟩
def IntAt(w:World)(b:Nat)(n:Int):Prop:=∃ v,w.heap[b]? = some (.cells #[.bool (decide (n<0)),v] 210 (0,0))∧Mag w v n.natAbs
theorem IntAt.in{w b n}(h:IntAt w b n):IntIn w b 0 n:=by
 obtain⟨v,h1,h2⟩:=h;exact⟨_,_,v,h1,rfl,rfl,rfl,h2⟩
def IntO(n:Int):VP :=
  ⟨fun S v w=>∃ b,v=.pointer (some ⟨b,0,none⟩)∧S b∧IntAt w b n,
   fun {S S' v w} hS ⟨b,h1,h2,h3⟩=>⟨b,h1,hS b (by obtain⟨v,h4,_⟩:=h3;exact lt_of h4) h2,h3⟩,
   fun {S v w w'} h ⟨b,h1,h2,h3⟩=>⟨b,h1,h2,by obtain⟨v,h4,h5⟩:=h3;exact⟨v,h.num h2 h4 rfl,h5.grow h⟩⟩⟩
theorem IntO.p{n S v w}(h:(IntO n).p S v w):(IntP n).p S v w:=by
 obtain⟨b,h1,h2,h3⟩:=h;exact⟨b,0,h1,h2,h3.in⟩
theorem IntO.elim{n S v w}(h:(IntO n).p S v w):∃ b,v=.pointer (some ⟨b,0,none⟩)∧S b∧(IntO n).p (·=b) (.pointer (some ⟨b,0,none⟩)) w:=by
 obtain⟨b,h1,h2,h3⟩:=h;exact⟨b,h1,h2,b,rfl,rfl,h3⟩
theorem IntO.at{n:Int}{b:Nat}{S:Nat→Prop}{w}(h:(IntO n).p S (.pointer (some ⟨b,0,none⟩)) w):IntAt w b n:=by
 obtain⟨_,e,_,h⟩:=h;cases e;exact h
theorem IntO.soft{n:Int}{S:Nat→Prop}{b:Nat}{w}(h:(IntO n).p S (.pointer (some ⟨b,0,none⟩)) w):Soft w b:=by
 obtain⟨v,h1,_⟩:=IntO.at h;exact⟨_,_,h1,rfl⟩
theorem IntO.lt{n:Int}{S:Nat→Prop}{b:Nat}{w}(h:(IntO n).p S (.pointer (some ⟨b,0,none⟩)) w):b<w.heap.size:=by
 obtain⟨v,h1,_⟩:=IntO.at h;exact lt_of h1
theorem IntO.isPtr{q S v w}(h:(IntO q).p S v w):∃ b,v=.pointer (some ⟨b,0,none⟩):=by obtain⟨b,h,_⟩:=h;exact⟨b,h⟩
def RatP(q:Rat):VP :=
  ⟨fun S v w=>∃ b,v=.pointer (some ⟨b,0,none⟩)∧S b∧(RatAt w b q∨(q=0∧RatZ w b)),
   fun {S S' v w} hS ⟨b,h1,h2,h3⟩=>⟨b,h1,hS b (by rcases h3 with⟨_,_,h4,_⟩|⟨_,h4⟩<;>exact lt_of h4) h2,h3⟩,
   fun {S v w w'} h ⟨b,h1,h2,h3⟩=>⟨b,h1,h2,h3.imp (fun h3=>h3.grow h2 h) fun⟨h4,h5⟩=>⟨h4,h5.grow h2 h⟩⟩⟩
def RatN(q:Rat):VP :=
 ⟨fun S v w=>(v=.pointer none∧q=0)∨(RatP q).p S v w,fun hS h=>h.imp id ((RatP q).mono hS),fun h hp=>hp.imp id ((RatP q).grow h)⟩
def Rgn.VP.two(φ ψ:VP):VP :=
  ⟨fun S v w=>∃ a b,v=.agg #[a,b]∧φ.p S a w∧ψ.p S b w,
   fun hS ⟨a,b,h1,h2,h3⟩=>⟨a,b,h1,φ.mono hS h2,ψ.mono hS h3⟩,
   fun h ⟨a,b,h1,h2,h3⟩=>⟨a,b,h1,φ.grow h h2,ψ.grow h h3⟩⟩
def Rgn.VP.tup(φ ψ:VP):VP :=
  ⟨fun S v w=>∃ a b,v=.tuple #[a,b]∧φ.p S a w∧ψ.p S b w,
   fun hS ⟨a,b,h1,h2,h3⟩=>⟨a,b,h1,φ.mono hS h2,ψ.mono hS h3⟩,
   fun h ⟨a,b,h1,h2,h3⟩=>⟨a,b,h1,φ.grow h h2,ψ.grow h h3⟩⟩
def CxP(z:Cx):VP:=VP.two (RatP z.re) (RatP z.im)
def NumP(z:Cx):VP:=VP.two (RatN z.re) (RatN z.im)
theorem Rgn.VP.at{φ:VP}{S:Nat→Prop}{b:Nat}{v:Value}{w:World}(h:φ.p (·=b) v w)(hS:S b):φ.p S v w:=φ.mono (fun k _ e=>by subst e;exact hS) h
theorem RatP.elim{q S v w}(h:(RatP q).p S v w):∃ b,v=.pointer (some ⟨b,0,none⟩)∧S b∧(RatP q).p (·=b) (.pointer (some ⟨b,0,none⟩)) w:=by
 obtain⟨b,h1,h2,h3⟩:=h;exact⟨b,h1,h2,b,rfl,rfl,h3⟩
theorem IntP.elim{n S v w}(h:(IntP n).p S v w):∃ b off,v=.pointer (some ⟨b,off,none⟩)∧S b∧(IntP n).p (·=b) (.pointer (some ⟨b,off,none⟩)) w:=by
 obtain⟨b,off,h1,h2,h3⟩:=h;exact⟨b,off,h1,h2,b,off,rfl,rfl,h3⟩
theorem IntP.in{n:Int}{b off:Nat}{S:Nat→Prop}{w}(h:(IntP n).p S (.pointer (some ⟨b,off,none⟩)) w):IntIn w b off n:=by
 obtain⟨_,_,e,_,h⟩:=h;cases e;exact h
theorem RatP.in{q:Rat}{b:Nat}{S:Nat→Prop}{w}(h:(RatP q).p S (.pointer (some ⟨b,0,none⟩)) w):RatAt w b q∨(q=0∧RatZ w b):=by
 obtain⟨_,e,_,h⟩:=h;cases e;exact h
theorem CxP.elim{z S v w}(h:(CxP z).p S v w):∃ a b,v=.agg #[.pointer (some ⟨a,0,none⟩),.pointer (some ⟨b,0,none⟩)]∧S a∧S b∧(RatP z.re).p (·=a) (.pointer (some ⟨a,0,none⟩)) w∧(RatP z.im).p (·=b) (.pointer (some ⟨b,0,none⟩)) w:=by
 obtain⟨v1,v2,h1,h2,h3⟩:=h
 obtain⟨a,rfl,hS,ha⟩:=RatP.elim h2
 obtain⟨b,rfl,hT,hb⟩:=RatP.elim h3
 exact⟨a,b,h1,hS,hT,ha,hb⟩
theorem CxP.mk{z S a b w}(ha:(RatP z.re).p S a w)(hb:(RatP z.im).p S b w):(CxP z).p S (.agg #[a,b]) w:=⟨a,b,rfl,ha,hb⟩
theorem NumP.mk{z:Cx}{S a b w}(ha:(RatN z.re).p S a w)(hb:(RatN z.im).p S b w):(NumP z).p S (.agg #[a,b]) w:=⟨a,b,rfl,ha,hb⟩
theorem RatP.n{q S v w}(h:(RatP q).p S v w):(RatN q).p S v w:=.inr h
theorem RatP.soft{q:Rat}{S:Nat→Prop}{b:Nat}{w}(h:(RatP q).p S (.pointer (some ⟨b,0,none⟩)) w):Soft w b:=by
 rcases RatP.in h with⟨_,_,h1,_⟩|⟨_,h1⟩
 ·exact⟨_,_,h1,rfl⟩
 ·exact⟨_,_,h1,rfl⟩
theorem IntP.soft{n:Int}{S:Nat→Prop}{b off:Nat}{w}(h:(IntP n).p S (.pointer (some ⟨b,off,none⟩)) w):Soft w b:=by
 obtain⟨_,_,_,h1,h2,_⟩:=IntP.in h
 exact⟨_,_,h1,h2⟩
theorem RatP.lt{q:Rat}{S:Nat→Prop}{b:Nat}{w}(h:(RatP q).p S (.pointer (some ⟨b,0,none⟩)) w):b<w.heap.size:=by
 obtain⟨_,_,h1,_⟩:=RatP.soft h;exact lt_of h1
theorem IntP.lt{n:Int}{S:Nat→Prop}{b off:Nat}{w}(h:(IntP n).p S (.pointer (some ⟨b,off,none⟩)) w):b<w.heap.size:=by
 obtain⟨_,_,h1,_⟩:=IntP.soft h;exact lt_of h1
theorem RatP.isPtr{q S v w}(h:(RatP q).p S v w):∃ b,v=.pointer (some ⟨b,0,none⟩):=by obtain⟨b,h,_⟩:=h;exact⟨b,h⟩
theorem IntP.isPtr{q S v w}(h:(IntP q).p S v w):∃ b off,v=.pointer (some ⟨b,off,none⟩):=by obtain⟨b,off,h,_⟩:=h;exact⟨b,off,h⟩
theorem Mag.isSl{w v n}(h:Mag w v n):∃ a m c,v=.slice a m c:=by
 obtain⟨l,h1,_⟩:=h
 rcases h1 with⟨h,_⟩|⟨b,off,cap,cur,fr,h,_⟩
 ·exact⟨_,_,_,h⟩
 ·exact⟨_,_,_,h⟩
theorem RatP.num{q:Rat}{S:Nat→Prop}{b:Nat}{w}(h:(RatP q).p S (.pointer (some ⟨b,0,none⟩)) w):(IntP q.num).p S (.pointer (some ⟨b,0,none⟩)) w:=by
 obtain⟨b', e,hS,h⟩:=h
 cases e
 refine⟨b,0,rfl,hS,?_⟩
 rcases h with⟨v1,v2,h1,h2,h3⟩|⟨rfl,h1⟩
 ·exact⟨_,_,v1,h1,rfl,rfl,rfl,h2⟩
 ·exact⟨_,_,.slice none 0 0,h1,rfl,rfl,rfl,[],.inl ⟨rfl,rfl⟩,by simp [Canon],rfl⟩
theorem RatAt.den{q:Rat}{b:Nat}{w}{S:Nat→Prop}(h:RatAt w b q)(hS:S b):(IntP q.den).p S (.pointer (some ⟨b,2,none⟩)) w:=by
 obtain⟨v1,v2,h1,h2,h3⟩:=h
 exact⟨b,2,rfl,hS,_,_,v2,h1,rfl,by simp,rfl,by simpa using h3⟩
theorem RatAt.p{q:Rat}{b:Nat}{w}{S:Nat→Prop}(h:RatAt w b q)(hS:S b):(RatP q).p S (.pointer (some ⟨b,0,none⟩)) w:=⟨b,rfl,hS,.inl h⟩
def RatBlk(w:World)(z:Nat):Prop:=∃ a b c d,w.heap[z]? = some (.cells #[a,b,c,d] 212 (0,0))
def IntBlk(w:World)(z:Nat):Prop:=∃ a b,w.heap[z]? = some (.cells #[a,b] 210 (0,0))
theorem IntO.blk{n:Int}{b:Nat}{S:Nat→Prop}{w}(h:(IntO n).p S (.pointer (some ⟨b,0,none⟩)) w):IntBlk w b:=by
 obtain⟨v,h1,_⟩:=IntO.at h;exact⟨_,_,h1⟩
theorem RatP.blk{q:Rat}{b:Nat}{S:Nat→Prop}{w}(h:(RatP q).p S (.pointer (some ⟨b,0,none⟩)) w):RatBlk w b:=by
 rcases RatP.in h with⟨v1,v2,h1,_⟩|⟨_,h1⟩
 ·exact⟨_,_,_,_,h1⟩
 ·exact⟨_,_,_,_,h1⟩
def RetOwn(z:Nat)(φ:VP)(W:World)(e:Ending)(w': World):Prop :=
 e=.returned (.pointer (some ⟨z,0,none⟩))∧φ.p (·=z) (.pointer (some ⟨z,0,none⟩)) w'∧Only z W w'
def RetV(V:Value)(W:World):Ending→World→Prop:=Ret (.is V) Any W
theorem RetV.mk{V:Value}{W:World}{e:Ending}{w': World}(h1:e=.returned V)(h2:RowKit.Below W.heap.size W w'):RetV V W e w' := ⟨V,h1,rfl,h2⟩
theorem RetV.is{V:Value}{W:World}{e:Ending}{w': World}(h:RetV V W e w'):e=.returned V∧RowKit.Below W.heap.size W w' := by
 obtain⟨v,h1,h2,h3⟩:=h;have:v=V:=h2;subst this;exact⟨h1,h3⟩
theorem Rgn.Go2.callO{P:Program}{ops:Array Oper}{B0:Nat}{R0:Nat→Prop}{olds:List (Nat×Nat)}{F:List (Pl B0 R0 olds)→Prop}{a0:Act}{w0:World}{k i m:Nat}{rp:List (Nat×Pl B0 R0 olds)}{o:Oper}(ho:ops[i]? = some o)(hg:o.guard=none){c:Array Value}{T:TypeId}(hm:(m,.alloc c T) ∈ rp)(him:(i == m)=false)(φ:VP){f:FuncId}(h:∀ u w ρ b,Here2 ops a0 olds w0 rp i u w ρ→(u m).v=.pointer (some ⟨b,0,none⟩)→w.heap[b]? = some (.cells c T (0,0))→∃ args,(execOp ρ o).run P w=.ok (.enter f args) w∧Calls P f args w (RetOwn b φ w))(rest:Go2 P ops a0 w0 F k (i+1) ((i,.op (some m) (.own i m φ))::rp)):Go2 P ops a0 w0 F (k+1) i rp:=by
 refine Go2.callOwn (f:=f) ho hg hm (.own i m φ) (fun u w ρ b H h1 h2 h3=>?_) rest
 obtain⟨args,h4,h5⟩:=h u w ρ b H h1 h3
 refine⟨args,h4,h5.mono fun e w' ⟨he,hr,ho⟩=>⟨_,he,⟨?_,b,?_,h2,hr⟩,ho⟩⟩
 ·show (upd u i _ i).v=(upd u i _ m).v
  rw [upd_same,upd_other _ _ (fun e=>by subst e;simp at him),h1]
 ·rw [upd_other _ _ (fun e=>by subst e;simp at him),h1]
theorem Rgn.Go2.callK{P:Program}{ops:Array Oper}{B0:Nat}{R0:Nat→Prop}{olds:List (Nat×Nat)}{F:List (Pl B0 R0 olds)→Prop}{a0:Act}{w0:World}{k i:Nat}{rp:List (Nat×Pl B0 R0 olds)}{o:Oper}(ho:ops[i]? = some o)(hg:Gd2 ops a0 w0 rp i o){V:Value}{f:FuncId}(h:∀ u w ρ,Here2 ops a0 olds w0 rp i u w ρ→∃ args,(execOp ρ o).run P w=.ok (.enter f args) w∧Calls P f args w (RetV V w))(rest:Go2 P ops a0 w0 F k (i+1) ((i,.op none (.eq i V))::rp)):Go2 P ops a0 w0 F (k+1) i rp :=
 Go2.callV (f:=f) ho hg (fun u w ρ H=>by obtain⟨args,h1,h2⟩:=h u w ρ H;exact⟨args,Any,h1,h2⟩) rest
end Go.Proofs.YtcdbmjnipaochaaGreat
namespace Go.Proofs.YtcdbmjnipaochaaGreat
def Bd(l:List Nat):Prop:=∀ x ∈ l,x<4294967296
theorem Bd.nil:Bd []:=fun _ h=>by cases h
theorem Bd.getD{l:List Nat}(h:Bd l)(i:Nat):l.getD i 0<4294967296:=by
 rw [List.getD_eq_getElem?_getD]
 cases hx:l[i]? with
 | none=>simp
 | some x=>simpa using h x (List.mem_of_getElem? hx)
theorem Bd.take{l:List Nat}(h:Bd l)(i:Nat):Bd (l.take i):=fun x hx=>h x (List.mem_of_mem_take hx)
theorem Bd.drop{l:List Nat}(h:Bd l)(i:Nat):Bd (l.drop i):=fun x hx=>h x (List.mem_of_mem_drop hx)
theorem Bd.set{l:List Nat}(h:Bd l){x:Nat}(hx:x<4294967296)(i:Nat):Bd (l.set i x):=fun y hy=>by
 rcases List.mem_or_eq_of_mem_set hy with h1|h1
 ·exact h y h1
 ·subst h1;exact hx
theorem Bd.append{l m:List Nat}(h:Bd l)(g:Bd m):Bd (l++m):=fun x hx=>by
 rcases List.mem_append.1 hx with h1|h1
 ·exact h x h1
 ·exact g x h1
theorem Bd.cons{l:List Nat}{x:Nat}(hx:x<4294967296)(h:Bd l):Bd (x::l):=fun y hy=>by
 rcases List.mem_cons.1 hy with h1|h1
 ·subst h1;exact hx
 ·exact h y h1
theorem Bd.of_cons{l:List Nat}{x:Nat}(h:Bd (x::l)):x<4294967296∧Bd l:=⟨h x (by simp),fun y hy=>h y (by simp [hy])⟩
theorem Bd.replicate(n:Nat):Bd (List.replicate n 0):=fun x hx=>by rw [List.eq_of_mem_replicate hx];decide
theorem val_append(l m:List Nat):val (l++m)=val l+4294967296^l.length*val m:=by
 induction l with
 | nil=>simp [val]
 | cons x l ih=>simp only [List.cons_append,val,ih,List.length_cons,Nat.pow_succ];rw [Nat.mul_add,Nat.mul_comm (4294967296^l.length) 4294967296,Nat.mul_assoc];omega
theorem val_lt{l:List Nat}(h:Bd l):val l<4294967296^l.length:=by
 induction l with
 | nil=>simp [val]
 | cons x l ih =>
  obtain⟨h1,h2⟩:=h.of_cons
  have:=ih h2
  simp only [val,List.length_cons,Nat.pow_succ]
  omega
theorem val_take_succ(l:List Nat)(i:Nat):val (l.take (i+1))=val (l.take i)+4294967296^i*l.getD i 0:=by
 induction l generalizing i with
 | nil=>simp [val]
 | cons x l ih =>
  cases i with
  | zero=>simp [val]
  | succ i =>
   have:=ih i
   simp only [List.take_succ_cons,val,List.getD_cons_succ] at this ⊢
   rw [this,Nat.pow_succ,Nat.mul_add,Nat.mul_comm (4294967296^i) 4294967296,Nat.mul_assoc]
   omega
theorem val_take_all{l:List Nat}{i:Nat}(h:l.length≤i):val (l.take i)=val l:=by rw [List.take_of_length_le h]
theorem val_take_set(l:List Nat)(i x:Nat)(h:i<l.length):val ((l.set i x).take (i+1))=val (l.take i)+4294967296^i*x:=by
 rw [val_take_succ,List.take_set_of_le (Nat.le_refl i)]
 simp [List.getD_eq_getElem?_getD,h]
theorem val_split(l:List Nat)(i:Nat)(h:i≤l.length):val l=val (l.take i)+4294967296^i*val (l.drop i):=by
 conv=>lhs;rw [← List.take_append_drop i l,val_append,List.length_take,Nat.min_eq_left h]
theorem val_replicate(n:Nat):val (List.replicate n 0)=0:=by
 induction n with
 | zero=>rfl
 | succ n ih=>simp [List.replicate_succ,val,ih]
def trim:List Nat→List Nat
 | []=>[]
 | x::l=>match trim l with|[]=>if x=0 then [] else [x]|y::m=>x::y::m
theorem val_trim(l:List Nat):val (trim l)=val l:=by
 induction l with
 | nil=>rfl
 | cons x l ih =>
  unfold trim
  cases h:trim l with
  | nil =>
   rw [h] at ih
   by_cases hx:x=0
   ·subst hx;simp [val,← ih]
   ·simp [hx,val,← ih]
  | cons y m=>rw [h] at ih;simp only [val] at ih ⊢;omega
theorem trim_canon(l:List Nat):Canon (trim l):=by
 induction l with
 | nil=>simp [trim,Canon]
 | cons x l ih =>
  unfold trim
  cases h:trim l with
  | nil =>
   by_cases hx:x=0
   ·simp [hx,Canon]
   ·simp [hx,Canon]
  | cons y m=>rw [h] at ih;unfold Canon at *;simpa [List.getLast?_cons_cons] using ih
theorem trim_take(l:List Nat):trim l=l.take (trim l).length:=by
 induction l with
 | nil=>rfl
 | cons x l ih =>
  unfold trim
  cases h:trim l with
  | nil=>by_cases hx:x=0<;>simp [hx]
  | cons y m=>rw [h] at ih;simp only [List.length_cons,List.take_succ_cons] at ih ⊢;rw [← ih]
theorem trim_len(l:List Nat):(trim l).length≤l.length:=by
 have h:=congrArg List.length (trim_take l);rw [List.length_take] at h;omega
theorem trim_snoc_zero(l:List Nat):trim (l++[0])=trim l:=by
 induction l with
 | nil=>simp [trim]
 | cons x l ih=>simp only [List.cons_append,trim,ih]
theorem trim_of_canon{l:List Nat}(h:Canon l):trim l=l:=by
 induction l with
 | nil=>rfl
 | cons x l ih =>
  cases l with
  | nil=>simp only [trim];rw [if_neg];intro e;subst e;exact h (by simp)
  | cons y m =>
   have h' : Canon (y::m):=by unfold Canon at *;simpa [List.getLast?_cons_cons] using h
   have:=ih h'
   unfold trim
   rw [this]
theorem canon_ge{l:List Nat}(h:Canon l)(hne:l≠[]):4294967296^(l.length-1)≤val l:=by
 have hl:l=l.dropLast++[l.getLast hne]:=(List.dropLast_concat_getLast hne).symm
 have hx:l.getLast hne≠0:=by
  intro e;apply h;rw [List.getLast?_eq_some_getLast hne,e]
 rw [hl,val_append]
 simp only [val,List.length_append,List.length_dropLast,List.length_cons,List.length_nil,Nat.mul_zero,Nat.add_zero]
 have:4294967296^(l.length-1)*1≤4294967296^(l.length-1)*l.getLast hne:=Nat.mul_le_mul_left _ (by omega)
 have e:l.length-1+1-1=l.length-1:=by omega
 rw [Nat.add_sub_cancel]
 omega
theorem canon_len_le{l m:List Nat}(hl:Bd l)(hm:Bd m)(cl:Canon l)(h:val l≤val m):l.length≤m.length:=by
 by_cases hne:l=[]
 ·subst hne;simp
 ·have h1:=canon_ge cl hne
  have h2:=val_lt hm
  rcases Nat.lt_or_ge m.length l.length with hlt|hge
  ·exfalso
   have:4294967296^m.length≤4294967296^(l.length-1):=Nat.pow_le_pow_right (by decide) (by omega)
   omega
  ·exact hge
theorem canon_len{l:List Nat}(hl:Bd l)(cl:Canon l){k:Nat}:l.length≤k↔val l<4294967296^k:=by
 constructor
 ·intro h;exact Nat.lt_of_lt_of_le (val_lt hl) (Nat.pow_le_pow_right (by decide) h)
 ·intro h
  by_cases hne:l=[]
  ·subst hne;simp
  ·have h1:=canon_ge cl hne
   rcases Nat.lt_or_ge k l.length with hlt|hge
   ·have:4294967296^k≤4294967296^(l.length-1):=Nat.pow_le_pow_right (by decide) (by omega)
    omega
   ·exact hge
theorem canon_val_pos{l:List Nat}(cl:Canon l)(hne:l≠[]):0<val l :=
 Nat.lt_of_lt_of_le (Nat.pow_pos (by decide)) (canon_ge cl hne)
def wcells(l:List Nat):Array Value:=(l.map fun (x:Nat)=>Value.int .u32 (x:Int)).toArray
theorem wcells_size(l:List Nat):(wcells l).size=l.length:=by simp [wcells]
theorem wcells_get(l:List Nat)(i:Nat):(wcells l)[i]? = (l[i]?).map fun (x:Nat)=>Value.int .u32 (x:Int):=by simp [wcells]
theorem wcells_set(l:List Nat)(i x:Nat):(wcells l).setIfInBounds i (.int .u32 (x:Int))=wcells (l.set i x):=by
 simp [wcells,List.map_set]
end Go.Proofs.YtcdbmjnipaochaaGreat
namespace Go.Proofs.YtcdbmjnipaochaaGreat
open Go.RowKit Rgn
structure Row (w:World) (b off cap:Nat) (l:List Nat):Prop where
 le:l.length≤cap
 cap:cap≤9223372036854775807
 bd:Bd l
 cell:∀ i,i<l.length→w.cell? ⟨b,off+i,none⟩=some (.int .u32 (l.getD i 0:Nat))
 blk:∃ cur fr,w.heap[b]? = some (.cells cur 315 fr)
theorem Words.row{w v l}(h:Words w v l):(v=.slice none 0 0∧l=[])∨∃ b off cap,v=.slice (some ⟨b,off,none⟩) l.length cap∧Row w b off cap l:=by
 rcases h with h|⟨b,off,cap,cur,fr,h1,h2,h3,h4,h5⟩
 ·exact .inl h
 ·refine .inr ⟨b,off,cap,h1,h3,h4,fun x hx=>?_,fun i hi=>?_,cur,fr,h2⟩
  ·obtain⟨i,hi⟩:=List.getElem?_of_mem hx
   exact (h5 i x hi).2
  ·have:=(h5 i l[i] (by simp [hi])).1
   simp [World.cell?,h2,this,hi]
theorem Words.of_row{w b off cap l}(h:Row w b off cap l):Words w (.slice (some ⟨b,off,none⟩) l.length cap) l:=by
 obtain⟨cur,fr,hb⟩:=h.blk
 refine .inr ⟨b,off,cap,cur,fr,rfl,hb,h.le,h.cap,fun i x hx=>?_⟩
 have hi:i<l.length:=(List.getElem?_eq_some_iff.1 hx).1
 have hc:=h.cell i hi
 have e:l.getD i 0=x:=by simp [List.getD_eq_getElem?_getD,hx]
 rw [e] at hc
 refine⟨?_,h.bd x (List.mem_of_getElem? hx)⟩
 simpa [World.cell?,hb] using hc
theorem Words.bd{w v l}(h:Words w v l):Bd l:=by
 rcases h.row with⟨_,rfl⟩|⟨b,off,cap,_,h⟩
 ·exact Bd.nil
 ·exact h.bd
theorem Words.take{w v l}(h:Words w v l)(hne:∀ a n c,v=.slice a n c→a≠none)(k:Nat)(hk:k≤l.length):∃ b off cap,v=.slice (some ⟨b,off,none⟩) l.length cap∧Words w (.slice (some ⟨b,off,none⟩) k cap) (l.take k):=by
 rcases h.row with⟨e,rfl⟩|⟨b,off,cap,e,h⟩
 ·exact absurd rfl (hne _ _ _ e)
 ·refine⟨b,off,cap,e,?_⟩
  have hl:(l.take k).length=k:=by rw [List.length_take];omega
  have:Row w b off cap (l.take k):=⟨by have:=h.le;omega,h.cap,h.bd.take k,fun i hi=>by
   rw [h.cell i (by omega)]
   congr 3
   have hik:i<k:=by omega
   simp [List.getD_eq_getElem?_getD,List.getElem?_take,hik],h.blk⟩
  have:=Words.of_row this
  rwa [hl] at this
theorem drew2{w:World}{a b:Nat}:∃ n,(w.drewN a).drewN b=w.drewN n:=⟨_,World.drewN_drewN ..⟩
theorem drew3{w:World}{a b c:Nat}:∃ n,((w.drewN a).drewN b).drewN c=w.drewN n:=⟨a+(b+c),by rw [World.drewN_drewN,World.drewN_drewN]⟩
theorem at_any(v:Value)(l:List Nat)(i:Nat)(w:World)(h:Words w v l)(hi:i≤9223372036854775807):Calls Tryz.prog 290 #[v,.int .i64 i] w fun e w' => e=.returned (.int .u64 (l.getD i 0:Nat))∧w=w' := by
 rcases h.row with⟨rfl,rfl⟩|⟨b,off,cap,rfl,hr⟩
 ·have h0:¬ (i:Int)<0:=by omega
  go_enter Tryz.func290,Tryz.ntmps290
  go_wp2
  go_ret
  exact⟨by simp,rfl⟩
 ·by_cases hlt:i<l.length
  ·have hc:=hr.cell i hlt
   have hb:=hr.bd.getD i
   generalize l.getD i 0=x at *
   have h1:=hr.le;have h2:=hr.cap
   clear h
   go_enter Tryz.func290,Tryz.ntmps290
   go_wp2
   go_ret
   exact⟨rfl,rfl⟩
  ·have e:l.getD i 0=0:=by simp [List.getD_eq_getElem?_getD,List.getElem?_eq_none (Nat.le_of_not_lt hlt)]
   have h1:=hr.le;have h2:=hr.cap
   rw [e]
   clear h e
   go_enter Tryz.func290,Tryz.ntmps290
   go_wp2
   go_ret
   exact⟨rfl,rfl⟩
def cutV(l:List Nat):Value→Value
 | .slice a _ c=>.slice a (trim l).length c
 | v=>v
theorem Words.cut{w v l}(h:Words w v l):Words w (cutV l v) (trim l):=by
 rcases h.row with⟨rfl,rfl⟩|⟨b,off,cap,rfl,hr⟩
 ·exact .inl ⟨rfl,rfl⟩
 ·obtain⟨b', off', cap', e,h2⟩:=h.take (by intro a n c e;cases e;simp) (trim l).length (trim_len l)
  cases e
  rw [← trim_take] at h2
  exact h2
theorem take_trim{l:List Nat}{k:Nat}(hk:k<l.length)(h:trim (l.take (k+1))=trim l)(h0:l.getD k 0=0):trim (l.take k)=trim l:=by
 rw [← h]
 have:l.take (k+1)=l.take k++[0]:=by
  rw [List.take_succ_eq_append_getElem hk]
  have e:l[k]=0:=by rw [← h0];simp [List.getD_eq_getElem?_getD,hk]
  rw [e]
 rw [this,trim_snoc_zero]
theorem trim_done{l:List Nat}{k:Nat}(hk:k<l.length)(h:trim (l.take (k+1))=trim l)(h0:l.getD k 0≠0):(trim l).length=k+1:=by
 rw [← h,trim_of_canon]
 ·rw [List.length_take];omega
 ·unfold Canon
  rw [List.take_succ_eq_append_getElem hk]
  simp only [List.getLast?_concat,ne_eq,Option.some.injEq]
  intro e
  exact h0 (by rw [List.getD_eq_getElem?_getD,List.getElem?_eq_getElem hk,Option.getD_some,e])
theorem bigcut_any(v:Value)(l:List Nat)(w:World)(h:Words w v l):Calls Tryz.prog 310 #[v] w fun e w' => e=.returned (cutV l v)∧w=w' := by
 rcases h.row with⟨rfl,rfl⟩|⟨b,off,cap,rfl,hr⟩
 ·go_enter Tryz.func310,Tryz.ntmps310
  go_wp2
  go_loop [0] (fun v=>v=.slice none 0 0) (fun _=>0)
  case atStart=>rfl
  case round =>
   subst hrel
   go_wp2
   go_ret
   exact⟨rfl,rfl⟩
 ·have h1:=hr.le;have h2:=hr.cap
  clear h
  go_enter Tryz.func310,Tryz.ntmps310
  go_wp2
  go_loop [0] (fun v=>∃ k:Nat,k≤l.length∧trim (l.take k)=trim l∧v=.slice (some ⟨b,off,none⟩) k cap) (fun v=>match v with|.slice _ k _=>k|_=>0)
  case atStart=>exact⟨l.length,Nat.le_refl _,by simp,rfl⟩
  case round =>
   obtain⟨k,hk,ht,rfl⟩:=hrel
   cases k with
   | zero =>
    have HT:=Lib.hid ht;clear ht
    go_wp2
    go_ret
    refine⟨?_,rfl⟩
    have e:(trim l).length=0:=by rw [← HT.out];rfl
    simp only [cutV,e]
    rfl
   | succ k =>
    have hc:=hr.cell k (by omega)
    have HZ:=Lib.hid (@take_trim l k (by omega) ht)
    have HD:=Lib.hid (@trim_done l k (by omega) ht)
    have hb:=hr.bd.getD k
    clear ht
    generalize l.getD k 0=x at *
    by_cases hx:x=0
    ·subst hx
     have HZ' := Lib.hid (HZ.out rfl);clear HZ HD
     go_wp2
     exact⟨⟨k,by omega,HZ'.out,rfl⟩,by simp⟩
    ·have HD' := Lib.hid (HD.out hx);clear HZ HD
     have hx' : ((x:Int) == 0)=false:=by simp;omega
     go_wp2
     go_ret
     refine⟨?_,rfl⟩
     simp [cutV,HD'.out]
theorem refcut_any(v:Value)(l:List Nat)(w:World)(h:Words w v l):Calls Tryz.prog 304 #[v] w fun e w' => e=.returned (cutV l v)∧w=w' := by
 rcases h.row with⟨rfl,rfl⟩|⟨b,off,cap,rfl,hr⟩
 ·go_enter Tryz.func304,Tryz.ntmps304
  go_wp2
  go_loop [3] (fun v=>v=.int .i64 0) (fun _=>0)
  case atStart=>rfl
  case round =>
   subst hrel
   go_wp2
   go_ret
   exact⟨rfl,rfl⟩
 ·have h1:=hr.le;have h2:=hr.cap
  clear h
  go_enter Tryz.func304,Tryz.ntmps304
  go_wp2
  go_loop [3] (fun v=>∃ k:Nat,k≤l.length∧trim (l.take k)=trim l∧v=.int .i64 k) (fun v=>(intOf v).toNat)
  case atStart=>exact⟨l.length,Nat.le_refl _,by simp,rfl⟩
  case round =>
   obtain⟨k,hk,ht,rfl⟩:=hrel
   cases k with
   | zero =>
    have HT:=Lib.hid ht;clear ht
    go_wp2
    go_ret
    refine⟨?_,rfl⟩
    have e:(trim l).length=0:=by rw [← HT.out];rfl
    simp only [cutV,e]
    rfl
   | succ k =>
    have hc:=hr.cell k (by omega)
    have HZ:=Lib.hid (@take_trim l k (by omega) ht)
    have HD:=Lib.hid (@trim_done l k (by omega) ht)
    have hb:=hr.bd.getD k
    clear ht
    generalize l.getD k 0=x at *
    by_cases hx:x=0
    ·subst hx
     have HZ' := Lib.hid (HZ.out rfl);clear HZ HD
     go_wp2
     go_round
     case rel=>exact⟨k,by omega,HZ'.out,rfl⟩
     case measure=>simp [intOf]
    ·have HD' := Lib.hid (HD.out hx);clear HZ HD
     have hx' : ((x:Int) == 0)=false:=by simp;omega
     go_wp2
     go_ret
     refine⟨?_,rfl⟩
     simp [cutV,HD'.out]
def cmp3(a b:Nat):Int:=if a<b then -1 else if b<a then 1 else 0
theorem drop_cmp{l m:List Nat}{k:Nat}(hlen:l.length=m.length)(hl:Bd l)(hm:Bd m)(hk:k<l.length)(h:l.drop (k+1)=m.drop (k+1)):(l.getD k 0<m.getD k 0→val l<val m)∧(m.getD k 0<l.getD k 0→val m<val l)∧(l.getD k 0=m.getD k 0→l.drop k=m.drop k):=by
 have e1:=val_split l (k+1) (by omega)
 have e2:=val_split m (k+1) (by omega)
 rw [val_take_succ] at e1 e2
 rw [h] at e1
 have b1:=val_lt (hl.take k)
 have b2:=val_lt (hm.take k)
 rw [List.length_take,Nat.min_eq_left (by omega)] at b1 b2
 generalize val (m.drop (k+1))=d at *
 refine⟨fun hx=>?_,fun hx=>?_,fun hx=>?_⟩
 ·have:4294967296^k*(l.getD k 0+1)≤4294967296^k*m.getD k 0:=Nat.mul_le_mul_left _ hx
  rw [Nat.mul_add] at this
  omega
 ·have:4294967296^k*(m.getD k 0+1)≤4294967296^k*l.getD k 0:=Nat.mul_le_mul_left _ hx
  rw [Nat.mul_add] at this
  omega
 ·rw [List.drop_eq_getElem_cons hk,List.drop_eq_getElem_cons (by omega:k<m.length),h]
  congr 1
  simpa [List.getD_eq_getElem?_getD,hk,(by omega:k<m.length)] using hx
theorem len_cmp{l m:List Nat}(hl:Bd l)(hm:Bd m)(cm:Canon m)(h:l.length<m.length):val l<val m:=by
 rcases Nat.lt_or_ge (val l) (val m) with h1|h1
 ·exact h1
 ·have:=canon_len_le hm hl cm h1;omega
theorem cmp3_lt{a b:Nat}(h:a<b):cmp3 a b=-1:=by simp [cmp3,h]
theorem cmp3_gt{a b:Nat}(h:b<a):cmp3 a b=1:=by unfold cmp3;rw [if_neg (by omega),if_pos h]
theorem cmp3_eq{a b:Nat}(h:a=b):cmp3 a b=0:=by simp [cmp3,h]
theorem refunder_any(v v': Value)(l m:List Nat)(w:World)(h:Words w v l)(h': Words w v' m)(cl:Canon l)(cm:Canon m):Calls Tryz.prog 271 #[v,v'] w fun e w' => e=.returned (.int .i64 (cmp3 (val l) (val m)))∧∃ n,w'=w.drewN n:=by
 have Hb:=h.bd
 have Hb' := h'.bd
 have hv:∃ a c,v=.slice a l.length c∧l.length≤9223372036854775807:=by
  rcases h.row with⟨rfl,rfl⟩|⟨b,off,cap,rfl,hr⟩
  ·exact⟨_,_,rfl,by simp⟩
  ·exact⟨_,_,rfl,by have:=hr.le;have:=hr.cap;omega⟩
 have hv' : ∃ a c,v'=.slice a m.length c∧m.length≤9223372036854775807:=by
  rcases h'.row with⟨rfl,rfl⟩|⟨b,off,cap,rfl,hr⟩
  ·exact⟨_,_,rfl,by simp⟩
  ·exact⟨_,_,rfl,by have:=hr.le;have:=hr.cap;omega⟩
 by_cases hlt:l.length<m.length
 ·have HE:=Lib.hid (cmp3_lt (len_cmp Hb Hb' cm hlt))
  obtain⟨a,c,rfl,hl1⟩:=hv
  obtain⟨a', c', rfl,hl2⟩:=hv'
  clear h h' Hb Hb' cl cm
  have hne:((l.length:Int) != (m.length:Int))=true:=by rw [bne_iff_ne];omega
  go_enter Tryz.func271,Tryz.ntmps271
  go_wp2
  go_ret
  exact⟨by rw [HE.out];rfl,0,rfl⟩
 by_cases hgt:m.length<l.length
 ·have HE:=Lib.hid (cmp3_gt (len_cmp Hb' Hb cl hgt))
  obtain⟨a,c,rfl,hl1⟩:=hv
  obtain⟨a', c', rfl,hl2⟩:=hv'
  clear h h' Hb Hb' cl cm
  have hne:((l.length:Int) != (m.length:Int))=true:=by rw [bne_iff_ne];omega
  go_enter Tryz.func271,Tryz.ntmps271
  go_wp2
  go_ret
  exact⟨by rw [HE.out];rfl,0,rfl⟩
 have hlen:l.length=m.length:=by omega
 by_cases hnil:l=[]
 ·subst hnil
  have e:m=[]:=List.length_eq_zero_iff.1 hlen.symm
  subst e
  obtain⟨a,c,rfl,hl1⟩:=hv
  obtain⟨a', c', rfl,hl2⟩:=hv'
  clear h h' Hb Hb' cl cm
  go_enter Tryz.func271,Tryz.ntmps271
  go_wp2
  go_loop [5] (fun v=>v=.int .i64 (-1)) (fun _=>0)
  case atStart=>rfl
  case round =>
   subst hrel
   go_wp2
   go_ret
   exact⟨rfl,0,rfl⟩
 have hnil' : m≠[]:=fun e=>hnil (by subst e;exact List.length_eq_zero_iff.1 hlen)
 rcases h.row with⟨_,e⟩|⟨b,off,cap,rfl,hr⟩
 ·exact absurd e hnil
 rcases h'.row with⟨_,e⟩|⟨b', off', cap', rfl,hr'⟩
 ·exact absurd e hnil'
 have h1:=hr.le;have h2:=hr.cap;have h1' := hr'.le;have h2' := hr'.cap
 have HL:=Lib.hid hlen
 rw [← hlen] at h1' ⊢
 clear hv hv' h h' cl cm hnil hnil' hlt hgt hlen
 go_enter Tryz.func271,Tryz.ntmps271
 go_wp2
 go_loopw [5] (fun v wr=>(∃ n,wr=w.drewN n)∧∃ k:Nat,k≤l.length∧l.drop k=m.drop k∧v=.int .i64 ((k:Int)-1)) (fun v _=>(intOf v+1).toNat)
 case atStart=>exact⟨⟨0,rfl⟩,l.length,Nat.le_refl _,by rw [List.drop_length];rw [HL.out,List.drop_length],rfl⟩
 case round =>
  obtain⟨⟨n,rfl⟩,k,hk,hd,rfl⟩:=hrel
  cases k with
  | zero =>
   have HD:=Lib.hid hd;clear hd
   go_wp2
   go_ret
   exact⟨by rw [show l=m from by simpa using HD.out,cmp3_eq rfl];rfl,n,rfl⟩
  | succ k =>
   have hc:=hr.cell k (by omega)
   have hc' := hr'.cell k (by have:=HL.out;omega)
   have HC:=Lib.hid (drop_cmp HL.out Hb Hb' (by omega) hd)
   have hb:=hr.bd.getD k
   have hb' := hr'.bd.getD k
   clear hd
   generalize l.getD k 0=x at *
   generalize m.getD k 0=y at *
   have hd1:∀ n:Nat,(w.drewN n).cell? ⟨b,off+k,none⟩=some (.int .u32 (x:Int)):=fun _=>hc
   have hd2:∀ n:Nat,(w.drewN n).cell? ⟨b', off'+k,none⟩=some (.int .u32 (y:Int)):=fun _=>hc'
   by_cases hxy:x<y
   ·have HE:=Lib.hid (cmp3_lt (HC.out.1 hxy));clear HC
    have hi:(x:Int)<(y:Int):=by omega
    go_wp2
    go_quiet (fail)
    go_wp2
    go_ret
    exact⟨by rw [HE.out];rfl,drew2⟩
   by_cases hyx:y<x
   ·have HE:=Lib.hid (cmp3_gt (HC.out.2.1 hyx));clear HC
    have hi:(y:Int)<(x:Int):=by omega
    have hi' : ¬ (x:Int)<(y:Int):=by omega
    go_wp2
    go_quiet (fail)
    go_wp2
    go_quiet (fail)
    go_wp2
    go_ret
    exact⟨by rw [HE.out];rfl,drew3⟩
   ·have HE:=Lib.hid (HC.out.2.2 (by omega));clear HC
    have hi:¬ (y:Int)<(x:Int):=by omega
    have hi' : ¬ (x:Int)<(y:Int):=by omega
    go_wp2
    go_quiet (fail)
    go_wp2
    go_quiet (fail)
    go_wp2
    go_roundw
    case rel=>exact⟨⟨_,rfl⟩,k,by omega,HE.out,by go_num⟩
    case measure=>simp [intOf]
theorem bigunder_any(v v': Value)(l m:List Nat)(w:World)(h:Words w v l)(h': Words w v' m)(cl:Canon l)(cm:Canon m):Calls Tryz.prog 255 #[v,v'] w fun e w' => e=.returned (.int .i64 (cmp3 (val l) (val m)))∧∃ n,w'=w.drewN n:=by
 have Hb:=h.bd
 have Hb' := h'.bd
 have hv:∃ a c,v=.slice a l.length c∧l.length≤9223372036854775807:=by
  rcases h.row with⟨rfl,rfl⟩|⟨b,off,cap,rfl,hr⟩
  ·exact⟨_,_,rfl,by simp⟩
  ·exact⟨_,_,rfl,by have:=hr.le;have:=hr.cap;omega⟩
 have hv' : ∃ a c,v'=.slice a m.length c∧m.length≤9223372036854775807:=by
  rcases h'.row with⟨rfl,rfl⟩|⟨b,off,cap,rfl,hr⟩
  ·exact⟨_,_,rfl,by simp⟩
  ·exact⟨_,_,rfl,by have:=hr.le;have:=hr.cap;omega⟩
 by_cases hlt:l.length<m.length
 ·have HE:=Lib.hid (cmp3_lt (len_cmp Hb Hb' cm hlt))
  obtain⟨a,c,rfl,hl1⟩:=hv
  obtain⟨a', c', rfl,hl2⟩:=hv'
  clear h h' Hb Hb' cl cm
  have hne:((l.length:Int) != (m.length:Int))=true:=by rw [bne_iff_ne];omega
  go_enter Tryz.func255,Tryz.ntmps255
  go_wp2
  go_ret
  exact⟨by rw [HE.out];rfl,0,rfl⟩
 by_cases hgt:m.length<l.length
 ·have HE:=Lib.hid (cmp3_gt (len_cmp Hb' Hb cl hgt))
  obtain⟨a,c,rfl,hl1⟩:=hv
  obtain⟨a', c', rfl,hl2⟩:=hv'
  clear h h' Hb Hb' cl cm
  have hne:((l.length:Int) != (m.length:Int))=true:=by rw [bne_iff_ne];omega
  go_enter Tryz.func255,Tryz.ntmps255
  go_wp2
  go_ret
  exact⟨by rw [HE.out];rfl,0,rfl⟩
 have hlen:l.length=m.length:=by omega
 by_cases hnil:l=[]
 ·subst hnil
  have e:m=[]:=List.length_eq_zero_iff.1 hlen.symm
  subst e
  obtain⟨a,c,rfl,hl1⟩:=hv
  obtain⟨a', c', rfl,hl2⟩:=hv'
  clear h h' Hb Hb' cl cm
  go_enter Tryz.func255,Tryz.ntmps255
  go_wp2
  go_loop [5] (fun v=>v=.int .i64 (-1)) (fun _=>0)
  case atStart=>rfl
  case round =>
   subst hrel
   go_wp2
   go_ret
   exact⟨rfl,0,rfl⟩
 have hnil' : m≠[]:=fun e=>hnil (by subst e;exact List.length_eq_zero_iff.1 hlen)
 rcases h.row with⟨_,e⟩|⟨b,off,cap,rfl,hr⟩
 ·exact absurd e hnil
 rcases h'.row with⟨_,e⟩|⟨b', off', cap', rfl,hr'⟩
 ·exact absurd e hnil'
 have h1:=hr.le;have h2:=hr.cap;have h1' := hr'.le;have h2' := hr'.cap
 have HL:=Lib.hid hlen
 rw [← hlen] at h1' ⊢
 clear hv hv' h h' cl cm hnil hnil' hlt hgt hlen
 go_enter Tryz.func255,Tryz.ntmps255
 go_wp2
 go_loopw [5] (fun v wr=>(∃ n,wr=w.drewN n)∧∃ k:Nat,k≤l.length∧l.drop k=m.drop k∧v=.int .i64 ((k:Int)-1)) (fun v _=>(intOf v+1).toNat)
 case atStart=>exact⟨⟨0,rfl⟩,l.length,Nat.le_refl _,by rw [List.drop_length];rw [HL.out,List.drop_length],rfl⟩
 case round =>
  obtain⟨⟨n,rfl⟩,k,hk,hd,rfl⟩:=hrel
  cases k with
  | zero =>
   have HD:=Lib.hid hd;clear hd
   go_wp2
   go_ret
   exact⟨by rw [show l=m from by simpa using HD.out,cmp3_eq rfl];rfl,n,rfl⟩
  | succ k =>
   have hc:=hr.cell k (by omega)
   have hc' := hr'.cell k (by have:=HL.out;omega)
   have HC:=Lib.hid (drop_cmp HL.out Hb Hb' (by omega) hd)
   have hb:=hr.bd.getD k
   have hb' := hr'.bd.getD k
   clear hd
   generalize l.getD k 0=x at *
   generalize m.getD k 0=y at *
   have hd1:∀ n:Nat,(w.drewN n).cell? ⟨b,off+k,none⟩=some (.int .u32 (x:Int)):=fun _=>hc
   have hd2:∀ n:Nat,(w.drewN n).cell? ⟨b', off'+k,none⟩=some (.int .u32 (y:Int)):=fun _=>hc'
   by_cases hxy:x<y
   ·have HE:=Lib.hid (cmp3_lt (HC.out.1 hxy));clear HC
    have hi:(x:Int)<(y:Int):=by omega
    go_wp2
    go_quiet (fail)
    go_wp2
    go_ret
    exact⟨by rw [HE.out];rfl,drew2⟩
   by_cases hyx:y<x
   ·have HE:=Lib.hid (cmp3_gt (HC.out.2.1 hyx));clear HC
    have hi:(y:Int)<(x:Int):=by omega
    have hi' : ¬ (x:Int)<(y:Int):=by omega
    go_wp2
    go_quiet (fail)
    go_wp2
    go_quiet (fail)
    go_wp2
    go_ret
    exact⟨by rw [HE.out];rfl,drew3⟩
   ·have HE:=Lib.hid (HC.out.2.2 (by omega));clear HC
    have hi:¬ (y:Int)<(x:Int):=by omega
    have hi' : ¬ (x:Int)<(y:Int):=by omega
    go_wp2
    go_quiet (fail)
    go_wp2
    go_quiet (fail)
    go_wp2
    go_roundw
    case rel=>exact⟨⟨_,rfl⟩,k,by omega,HE.out,by go_num⟩
    case measure=>simp [intOf]
theorem info_u32:(Tryz.prog.info? 315).map (fun i=>(i.zero,i.size,i.bytes))=some (some (.int .u32 0),1,4):=by kernel_rfl
def MagRet(n:Nat)(W:World)(e:Ending)(w': World):Prop:=∃ v,e=.returned v∧Mag w' v n∧Below W.heap.size W w'
theorem made_wcells(n:Nat):madeCells #[.int .u32 0] n=wcells (List.replicate n 0):=by
 apply Array.ext
 ·simp [size_madeCells,wcells_size]
 ·intro i h1 h2
  simp [madeCells,wcells,Nat.mod_one]
theorem make_words(z:Int)(n:Nat)(hz:z=n)(hn:n≤1099511627776)(u:World):(Instr.makeSlice 208 (.int .i64 z) (.int .i64 z)).run Tryz.prog u =
   .ok (.slice (some ⟨u.heap.size,0,none⟩) n n) (u.alloc (.cells (wcells (List.replicate n 0)) 315)):=by
 subst hz
 obtain⟨i0,hi,hz0,hz1,hz2⟩:=info_parts info_u32
 have h:=run_make (P:=Tryz.prog) u 208 315 i0 (.int .u32 0) Tryz.underlying208 hi hz0 .i64 .i64 (n:Int) (n:Int) (by omega) (Int.le_refl _) (by rw [hz2];omega) (by omega)
 rw [← made_wcells]
 simpa [hz1,Value.cells] using h
def Blk(w:World)(b:Nat)(l:List Nat):Prop:=w.heap[b]? = some (.cells (wcells l) 315 (0,0))
theorem Blk.cell{w b l}(h:Blk w b l){i:Nat}(hi:i<l.length):w.cell? ⟨b,i,none⟩=some (.int .u32 (l.getD i 0:Nat)):=by
 unfold Blk at h
 simp [World.cell?,h,wcells_get,hi]
theorem Blk.free{w b l}(h:Blk w b l)(i:Nat):w.frozen? ⟨b,i,none⟩=false:=by
 unfold Blk at h
 simp [World.frozen?,h]
theorem Blk.set{w b l}(h:Blk w b l)(i x:Nat):Blk (w.setCell ⟨b,i,none⟩ (.int .u32 (x:Int))) b (l.set i x):=by
 unfold Blk at *
 rw [setCell_at h,wcells_set]
theorem Blk.drewN{w b l}(h:Blk w b l)(n:Nat):Blk (w.drewN n) b l:=h
theorem Blk.words{w b l}(h:Blk w b l)(hb:Bd l){k cap:Nat}(hk:k≤l.length)(hc:k≤cap)(hc': cap≤9223372036854775807):Words w (.slice (some ⟨b,0,none⟩) k cap) (l.take k):=by
 have hl:(l.take k).length=k:=by rw [List.length_take];omega
 have:Words w (.slice (some ⟨b,0,none⟩) (l.take k).length cap) (l.take k):=by
  refine .inr ⟨b,0,cap,_,_,rfl,h,by omega,hc', fun i x hx=>?_⟩
  have hx' : l[i]? = some x:=by
   rw [List.getElem?_take] at hx
   split at hx
   ·exact hx
   ·cases hx
  exact⟨by simp [wcells_get,hx'],hb x (List.mem_of_getElem? hx')⟩
 rwa [hl] at this
theorem Blk.all{w b l}(h:Blk w b l)(hb:Bd l){cap:Nat}(hc:l.length≤cap)(hc': cap≤9223372036854775807):Words w (.slice (some ⟨b,0,none⟩) l.length cap) l:=by
 have:=h.words hb (Nat.le_refl _) hc hc'
 rwa [List.take_length] at this
theorem Blk.alloc(w:World)(l:List Nat):Blk (w.alloc (.cells (wcells l) 315)) w.heap.size l :=
 (MapKept.heap_alloc w _).1
theorem Words.low{w w': World}{v:Value}{l:List Nat}(h:Words w v l)(hb:Below w.heap.size w w'):Words w' v l:=by
 rcases h with h|⟨b,off,cap,cur,fr,h1,h2,h3⟩
 ·exact .inl h
 ·exact .inr ⟨b,off,cap,cur,fr,h1,by rw [hb.block b (lt_of h2)];exact h2,h3⟩
theorem Words.drewN{w:World}{v:Value}{l:List Nat}(h:Words w v l)(n:Nat):Words (w.drewN n) v l:=h
theorem Mag.low{w w': World}{v:Value}{n:Nat}(h:Mag w v n)(hb:Below w.heap.size w w'):Mag w' v n:=by
 obtain⟨l,h1,h2⟩:=h;exact⟨l,h1.low hb,h2⟩
theorem carry_zero{a cy N:Nat}{l m:List Nat}(h:a+4294967296^N*cy=val l+val m)(hl:l.length<N)(hm:m.length<N)(bl:Bd l)(bm:Bd m):cy=0:=by
 have h1:=val_lt bl;have h2:=val_lt bm
 obtain⟨K,rfl⟩:∃ K,N=K+1:=⟨N-1,by omega⟩
 have h3:4294967296^l.length≤4294967296^K:=Nat.pow_le_pow_right (by decide) (by omega)
 have h4:4294967296^m.length≤4294967296^K:=Nat.pow_le_pow_right (by decide) (by omega)
 have h5:0<4294967296^K:=Nat.pow_pos (by decide)
 rw [Nat.pow_succ] at h
 generalize 4294967296^K=B at *
 rcases Nat.eq_zero_or_pos cy with h0|h0
 ·exact h0
 ·have:B*4294967296*1≤B*4294967296*cy:=Nat.mul_le_mul_left _ h0
  omega
theorem add_step{l m L:List Nat}{k cy:Nat}(hk:k<L.length)(h:val (L.take k)+4294967296^k*cy=val (l.take k)+val (m.take k)):val ((L.set k ((cy+l.getD k 0+m.getD k 0)%4294967296)).take (k+1))+4294967296^(k+1)*((cy+l.getD k 0+m.getD k 0)/4294967296)=val (l.take (k+1))+val (m.take (k+1)):=by
 rw [val_take_set _ _ _ hk,val_take_succ l,val_take_succ m]
 generalize l.getD k 0=x at *
 generalize m.getD k 0=y at *
 have e:∀ B:Nat,B*((cy+x+y)%4294967296)+4294967296*B*((cy+x+y)/4294967296)=B*cy+B*x+B*y:=by
  intro B
  have h2:=Nat.mod_add_div (cy+x+y) 4294967296
  calc _=B*((cy+x+y)%4294967296+4294967296*((cy+x+y)/4294967296)):=by rw [Nat.mul_add,Nat.mul_comm 4294967296 B,Nat.mul_assoc]
   _=B*(cy+x+y):=by rw [h2]
   _=_:=by rw [Nat.mul_add,Nat.mul_add]
 have e2:4294967296^(k+1)=4294967296*4294967296^k:=by rw [Nat.pow_succ,Nat.mul_comm]
 rw [e2]
 generalize 4294967296^k=B at *
 have:=e B
 omega
theorem refmore_any(v v': Value)(l m:List Nat)(w:World)(h:Words w v l)(h': Words w v' m)(hl:l.length≤549755813888)(hm:m.length≤549755813888):Calls Tryz.prog 270 #[v,v'] w (MagRet (val l+val m) w):=by
 have Hb:=h.bd
 have Hb' := h'.bd
 obtain⟨a,c,rfl⟩:∃ a c,v=.slice a l.length c:=by
  rcases h.row with⟨rfl,rfl⟩|⟨b,off,cap,rfl,hr⟩
  ·exact⟨_,_,rfl⟩
  ·exact⟨_,_,rfl⟩
 obtain⟨a', c', rfl⟩:∃ a c,v'=.slice a m.length c:=by
  rcases h'.row with⟨rfl,rfl⟩|⟨b,off,cap,rfl,hr⟩
  ·exact⟨_,_,rfl⟩
  ·exact⟨_,_,rfl⟩
 have H1:=Lib.hid h;have H2:=Lib.hid h'
 clear h h'
 have hmk1:=make_words ((l.length:Int)+1) (l.length+1) (by omega) (by omega)
 have hmk2:=make_words ((m.length:Int)+1) (m.length+1) (by omega) (by omega)
 rcases (by omega:(m.length:Int)≤(l.length:Int)∨¬ (m.length:Int)≤(l.length:Int)) with hc|hc
 ·have hN2:l.length<l.length+1:=by omega
  have hN3:m.length<l.length+1:=by omega
  have hz:((l.length:Int)+1)=((l.length+1:Nat):Int):=by omega
  rw [hz] at hmk1
  clear hmk2
  have hN:l.length+1≤549755813889:=by omega
  generalize hNN:l.length+1=N at *
  go_enter Tryz.func270,Tryz.ntmps270
  go_wp2_with fail
  go_loopw [7,8] (fun v7 v8 wr=>∃ (k cy:Nat) (L:List Nat),v7=.int .u64 cy∧v8=.int .i64 k∧k≤N∧cy<2∧L.length=N∧Hid (Bd L)∧Hid (val (L.take k)+4294967296^k*cy=val (l.take k)+val (m.take k))∧Blk wr w.heap.size L∧Below w.heap.size w wr) (fun _ v8 _=>N-(intOf v8).toNat)
  case atStart =>
   refine⟨0,0,List.replicate N 0,rfl,rfl,by omega,by omega,by simp,Bd.replicate N,?_,?_,?_⟩
   ·show _=_;simp [val]
   ·exact Blk.alloc _ _
   ·go_grown
  case round =>
   obtain⟨k,cy,L,rfl,rfl,hk,hcy,hL,HB,HS,HK,HW⟩:=hrel
   by_cases hkn:k<N
   ·have hkn' : (k:Int)<(N:Int):=by omega
    have ha:=fun u (hu:∃ n,u=wr.drewN n)=>at_any (.slice a l.length c) l k u (by obtain⟨n,rfl⟩:=hu;exact (H1.out.low HW).drewN n) (by omega)
    have ha' := fun u (hu:∃ n,u=wr.drewN n)=>at_any (.slice a' m.length c') m k u (by obtain⟨n,rfl⟩:=hu;exact (H2.out.low HW).drewN n) (by omega)
    have hx:=Hb.getD k;have hy:=Hb'.getD k
    have HS' := Lib.hid (add_step (L:=L) (by omega) HS);
    have hf:=HK.free k
    have hc:=HK.cell (i:=k) (by omega)
    have HB' := Lib.hid (fun x hx=>HB.set (x:=x) hx k)
    generalize l.getD k 0=x at *
    generalize m.getD k 0=y at *
    generalize L.getD k 0=z at *
    clear HS
    go_wp2_with fail
    go_call (ha wr ⟨0,rfl⟩) as _ _ ⟨rfl,rfl⟩
    go_wp2_with fail
    go_call (ha' wr ⟨0,rfl⟩) as _ _ ⟨rfl,rfl⟩
    go_wp2_with fail
    refine⟨?_,?_⟩
    ·refine⟨k+1,(cy+x+y)/4294967296,L.set k ((cy+x+y)%4294967296),by go_num,by go_num,by omega,by omega,by simp [hL],HB'.out _ (Nat.mod_lt _ (by decide)),HS', ?_,by go_grown⟩
     have:=HK.set k ((cy+x+y)%4294967296)
     rwa [show (((cy+x+y)%4294967296:Nat):Int)=((cy:Int)+x+y)%4294967296 by omega] at this
    ·simp [intOf];omega
   ·have hkn' : ¬ (k:Int)<(N:Int):=by omega
    have e:k=N:=by omega
    subst e
    have hv:val L=val l+val m:=by
     have e1:val (L.take k)=val L:=val_take_all (by omega)
     have e2:val (l.take k)=val l:=val_take_all (by omega)
     have e3:val (m.take k)=val m:=val_take_all (by omega)
     rw [e1,e2,e3] at HS
     have:=carry_zero HS hN2 hN3 Hb Hb'
     subst this
     rw [Nat.mul_zero,Nat.add_zero] at HS
     exact HS
    have hcut:=refcut_any (.slice (some ⟨w.heap.size,0,none⟩) L.length L.length) L wr (HK.all HB (Nat.le_refl _) (by omega))
    have hw:=(HK.all HB (Nat.le_refl _) (by omega)).cut
    rw [hL] at hcut hw
    go_wp2_with fail
    go_call hcut as _ _ ⟨rfl,rfl⟩
    go_wp2
    go_ret
    exact⟨_,rfl,⟨_,hw,trim_canon L,by rw [val_trim,hv]⟩,HW⟩
 ·have hN2:l.length<m.length+1:=by omega
  have hN3:m.length<m.length+1:=by omega
  have hz:((m.length:Int)+1)=((m.length+1:Nat):Int):=by omega
  rw [hz] at hmk2
  clear hmk1
  have hN:m.length+1≤549755813889:=by omega
  generalize hNN:m.length+1=N at *
  go_enter Tryz.func270,Tryz.ntmps270
  go_wp2_with fail
  go_loopw [7,8] (fun v7 v8 wr=>∃ (k cy:Nat) (L:List Nat),v7=.int .u64 cy∧v8=.int .i64 k∧k≤N∧cy<2∧L.length=N∧Hid (Bd L)∧Hid (val (L.take k)+4294967296^k*cy=val (l.take k)+val (m.take k))∧Blk wr w.heap.size L∧Below w.heap.size w wr) (fun _ v8 _=>N-(intOf v8).toNat)
  case atStart =>
   refine⟨0,0,List.replicate N 0,rfl,rfl,by omega,by omega,by simp,Bd.replicate N,?_,?_,?_⟩
   ·show _=_;simp [val]
   ·exact Blk.alloc _ _
   ·go_grown
  case round =>
   obtain⟨k,cy,L,rfl,rfl,hk,hcy,hL,HB,HS,HK,HW⟩:=hrel
   by_cases hkn:k<N
   ·have hkn' : (k:Int)<(N:Int):=by omega
    have ha:=fun u (hu:∃ n,u=wr.drewN n)=>at_any (.slice a l.length c) l k u (by obtain⟨n,rfl⟩:=hu;exact (H1.out.low HW).drewN n) (by omega)
    have ha' := fun u (hu:∃ n,u=wr.drewN n)=>at_any (.slice a' m.length c') m k u (by obtain⟨n,rfl⟩:=hu;exact (H2.out.low HW).drewN n) (by omega)
    have hx:=Hb.getD k;have hy:=Hb'.getD k
    have HS' := Lib.hid (add_step (L:=L) (by omega) HS);
    have hf:=HK.free k
    have hc:=HK.cell (i:=k) (by omega)
    have HB' := Lib.hid (fun x hx=>HB.set (x:=x) hx k)
    generalize l.getD k 0=x at *
    generalize m.getD k 0=y at *
    generalize L.getD k 0=z at *
    clear HS
    go_wp2_with fail
    go_call (ha wr ⟨0,rfl⟩) as _ _ ⟨rfl,rfl⟩
    go_wp2_with fail
    go_call (ha' wr ⟨0,rfl⟩) as _ _ ⟨rfl,rfl⟩
    go_wp2_with fail
    refine⟨?_,?_⟩
    ·refine⟨k+1,(cy+x+y)/4294967296,L.set k ((cy+x+y)%4294967296),by go_num,by go_num,by omega,by omega,by simp [hL],HB'.out _ (Nat.mod_lt _ (by decide)),HS', ?_,by go_grown⟩
     have:=HK.set k ((cy+x+y)%4294967296)
     rwa [show (((cy+x+y)%4294967296:Nat):Int)=((cy:Int)+x+y)%4294967296 by omega] at this
    ·simp [intOf];omega
   ·have hkn' : ¬ (k:Int)<(N:Int):=by omega
    have e:k=N:=by omega
    subst e
    have hv:val L=val l+val m:=by
     have e1:val (L.take k)=val L:=val_take_all (by omega)
     have e2:val (l.take k)=val l:=val_take_all (by omega)
     have e3:val (m.take k)=val m:=val_take_all (by omega)
     rw [e1,e2,e3] at HS
     have:=carry_zero HS hN2 hN3 Hb Hb'
     subst this
     rw [Nat.mul_zero,Nat.add_zero] at HS
     exact HS
    have hcut:=refcut_any (.slice (some ⟨w.heap.size,0,none⟩) L.length L.length) L wr (HK.all HB (Nat.le_refl _) (by omega))
    have hw:=(HK.all HB (Nat.le_refl _) (by omega)).cut
    rw [hL] at hcut hw
    go_wp2_with fail
    go_call hcut as _ _ ⟨rfl,rfl⟩
    go_wp2
    go_ret
    exact⟨_,rfl,⟨_,hw,trim_canon L,by rw [val_trim,hv]⟩,HW⟩
theorem Words.len{w:World}{v:Value}{l:List Nat}(h:Words w v l):∃ a c,v=.slice a l.length c∧l.length≤c∧c≤9223372036854775807:=by
 rcases h.row with⟨rfl,rfl⟩|⟨b,off,cap,rfl,hr⟩
 ·exact⟨_,_,rfl,by simp,by simp⟩
 ·exact⟨_,_,rfl,hr.le,hr.cap⟩
theorem Words.at{w:World}{a:Option Addr}{n c:Nat}{l:List Nat}(h:Words w (.slice a n c) l){k:Nat}(hk:k<l.length):∃ b off,a=some ⟨b,off,none⟩∧w.cell? ⟨b,off+k,none⟩=some (.int .u32 (l.getD k 0:Nat)):=by
 rcases h.row with⟨_,rfl⟩|⟨b,off,cap,e,hr⟩
 ·simp at hk
 ·cases e;exact⟨b,off,rfl,hr.cell k hk⟩
theorem sub_step{l m L:List Nat}{k bw bw' d:Nat}(hk:k<L.length)(h:val (L.take k)+val (m.take k)=val (l.take k)+4294967296^k*bw)(hd:d+m.getD k 0+bw=l.getD k 0+4294967296*bw'):val ((L.set k d).take (k+1))+val (m.take (k+1))=val (l.take (k+1))+4294967296^(k+1)*bw' := by
 rw [val_take_set _ _ _ hk,val_take_succ l,val_take_succ m]
 generalize l.getD k 0=x at *
 generalize m.getD k 0=y at *
 rw [Nat.pow_succ,Nat.mul_assoc]
 generalize 4294967296^k=B at *
 have e:B*(d+y+bw)=B*(x+4294967296*bw'):=by rw [hd]
 simp only [Nat.mul_add] at e
 omega
theorem borrow_zero{bw N:Nat}{l m L:List Nat}(h:val L+val m=val l+4294967296^N*bw)(hL:L.length=N)(hb:Bd L)(hle:val m≤val l):bw=0:=by
 have h1:=val_lt hb
 rw [hL] at h1
 generalize 4294967296^N=B at *
 rcases Nat.eq_zero_or_pos bw with h0|h0
 ·exact h0
 ·have:B*1≤B*bw:=Nat.mul_le_mul_left _ h0
  omega
theorem refless_any(v v': Value)(l m:List Nat)(w:World)(h:Words w v l)(h': Words w v' m)(cm:Canon m)(hl:l.length≤549755813888)(hle:val m≤val l):Calls Tryz.prog 272 #[v,v'] w (MagRet (val l-val m) w):=by
 have Hb:=h.bd
 have Hb' := h'.bd
 have hlm:=canon_len_le Hb' Hb cm hle
 obtain⟨a,c,rfl,hc1,hc2⟩:=h.len
 obtain⟨a', c', rfl,hc1', hc2'⟩:=h'.len
 have H1:=Lib.hid h;have H2:=Lib.hid h';have HLM:=Lib.hid hlm;have HLE:=Lib.hid hle
 clear h h' cm hlm hle
 have hmk:=make_words (l.length:Int) l.length (by omega) (by omega)
 go_enter Tryz.func272,Tryz.ntmps272
 go_wp2_with fail
 go_loopw [6,7] (fun v6 v7 wr=>∃ (k bw:Nat) (L:List Nat),v6=.int .u64 bw∧v7=.int .i64 k∧k≤l.length∧bw<2∧L.length=l.length∧Hid (Bd L)∧Hid (val (L.take k)+val (m.take k)=val (l.take k)+4294967296^k*bw)∧Blk wr w.heap.size L∧Below w.heap.size w wr) (fun _ v7 _=>l.length-(intOf v7).toNat)
 case atStart =>
  refine⟨0,0,List.replicate l.length 0,rfl,rfl,by omega,by omega,by simp,Bd.replicate _,?_,Blk.alloc _ _,?_⟩
  ·show _=_;simp [val]
  ·go_grown
 case round =>
  obtain⟨k,bw,L,rfl,rfl,hk,hcy,hL,HB,HS,HK,HW⟩:=hrel
  by_cases hkn:k<l.length
  ·have hkn' : (k:Int)<(l.length:Int):=by omega
   have ha:=at_any (.slice a l.length c) l k wr (H1.out.low HW) (by omega)
   have ha' := at_any (.slice a' m.length c') m k wr (H2.out.low HW) (by omega)
   have hx:=Hb.getD k;have hy:=Hb'.getD k
   have HS' := Lib.hid (@sub_step l m L k bw (1-(4294967296+l.getD k 0-m.getD k 0-bw)/4294967296) ((4294967296+l.getD k 0-m.getD k 0-bw)%4294967296) (by omega) HS (by omega))
   have hf:=HK.free k
   have hcl:=HK.cell (i:=k) (by omega)
   have HB' := Lib.hid (fun x hx=>HB.set (x:=x) hx k)
   generalize l.getD k 0=x at *
   generalize m.getD k 0=y at *
   generalize L.getD k 0=z at *
   clear HS
   go_wp2_with fail
   go_call ha as _ _ ⟨rfl,rfl⟩
   go_wp2_with fail
   go_call ha' as _ _ ⟨rfl,rfl⟩
   go_wp2_with fail
   refine⟨?_,?_⟩
   ·refine⟨k+1,_,L.set k ((4294967296+x-y-bw)%4294967296),by go_num,by go_num,by omega,by omega,by simp [hL],HB'.out _ (Nat.mod_lt _ (by decide)),HS', ?_,by go_grown⟩
    have:=HK.set k ((4294967296+x-y-bw)%4294967296)
    rwa [show (((4294967296+x-y-bw)%4294967296:Nat):Int)=(4294967296+(x:Int)-y-bw)%4294967296 by omega] at this
   ·simp [intOf];omega
  ·have hkn' : ¬ (k:Int)<(l.length:Int):=by omega
   have e:k=l.length:=by omega
   have hv:val L=val l-val m:=by
    have e1:val (L.take k)=val L:=val_take_all (by omega)
    have e2:val (l.take k)=val l:=val_take_all (by omega)
    have e3:val (m.take k)=val m:=val_take_all (by have:=HLM.out;omega)
    rw [e1,e2,e3] at HS
    have:=borrow_zero HS (by omega) HB HLE.out
    subst this
    rw [Nat.mul_zero,Nat.add_zero] at HS
    change _=_ at HS
    omega
   have hcut:=refcut_any (.slice (some ⟨w.heap.size,0,none⟩) L.length L.length) L wr (HK.all HB (Nat.le_refl _) (by omega))
   have hw:=(HK.all HB (Nat.le_refl _) (by omega)).cut
   rw [hL] at hcut hw
   go_wp2_with fail
   go_call hcut as _ _ ⟨rfl,rfl⟩
   go_wp2
   go_ret
   exact⟨_,rfl,⟨_,hw,trim_canon L,by rw [val_trim,hv]⟩,HW⟩
def RawRet(n:Nat)(W:World)(e:Ending)(w': World):Prop:=∃ v L,e=.returned v∧Words w' v L∧val L=n∧Below W.heap.size W w'
theorem bigmore_any(v v': Value)(l m:List Nat)(w:World)(h:Words w v l)(h': Words w v' m)(hl:l.length≤549755813888)(hm:m.length≤549755813888):Calls Tryz.prog 298 #[v,v'] w (RawRet (val l+val m) w):=by
 have Hb:=h.bd
 have Hb' := h'.bd
 obtain⟨a,c,rfl,hc1,hc2⟩:=h.len
 obtain⟨a', c', rfl,hc1', hc2'⟩:=h'.len
 have H1:=Lib.hid h;have H2:=Lib.hid h'
 clear h h'
 rcases (by omega:¬ (l.length:Int)<(m.length:Int)∨(l.length:Int)<(m.length:Int)) with hc|hc
 ·have hle:m.length≤l.length:=by omega
  clear hc
  have hnc:¬ (l.length:Int)<(m.length:Int):=by omega
  have hmk:=make_words ((l.length:Int)+1) (l.length+1) (by omega) (by omega)
  go_enter Tryz.func298,Tryz.ntmps298
  go_wp2_with fail
  go_loopw [6,22] (fun v6 v7 wr=>∃ (k cy:Nat) (L:List Nat),v6=.int .u64 cy∧v7=.int .i64 k∧k≤l.length∧cy<2∧L.length=l.length+1∧Hid (Bd L)∧Hid (val (L.take k)+4294967296^k*cy=val (l.take k)+val (m.take k))∧Blk wr w.heap.size L∧Below w.heap.size w wr) (fun _ v7 _=>l.length-(intOf v7).toNat)
  case atStart =>
   refine⟨0,0,List.replicate (l.length+1) 0,rfl,rfl,by omega,by omega,by simp,Bd.replicate _,?_,Blk.alloc _ _,?_⟩
   ·show _=_;simp [val]
   ·go_grown
  case round =>
   obtain⟨k,cy,L,rfl,rfl,hk,hcy,hL,HB,HS,HK,HW⟩:=hrel
   have hf:=HK.free k
   have hcl:=HK.cell (i:=k) (by omega)
   have HB' := Lib.hid (fun x hx=>HB.set (x:=x) hx k)
   generalize L.getD k 0=z at *
   by_cases hkn:k<l.length
   ·have hkn' : (k:Int)<(l.length:Int):=by omega
    obtain⟨b,off,rfl,hca⟩:=(H1.out.low HW).at hkn
    have hx:=Hb.getD k;have hy:=Hb'.getD k
    have HS' := Lib.hid (@add_step l m L k cy (by omega) HS)
    generalize l.getD k 0=x at *
    clear HS
    by_cases hkm:k<m.length
    ·have hkm' : (k:Int)<(m.length:Int):=by omega
     obtain⟨b', off', rfl,hca'⟩:=(H2.out.low HW).at hkm
     generalize m.getD k 0=y at *
     go_wp2_with fail
     refine⟨?_,?_⟩
     ·refine⟨k+1,_,L.set k ((cy+x+y)%4294967296),by go_num,by go_num,by omega,by omega,by simp [hL],HB'.out _ (Nat.mod_lt _ (by decide)),HS', ?_,by go_grown⟩
      have:=HK.set k ((cy+x+y)%4294967296)
      rwa [show (((cy+x+y)%4294967296:Nat):Int)=((cy:Int)+x+y)%4294967296 by omega] at this
     ·simp [intOf];omega
    ·have hkm' : ¬ (k:Int)<(m.length:Int):=by omega
     have e0:m.getD k 0=0:=by simp [List.getD_eq_getElem?_getD,List.getElem?_eq_none (Nat.le_of_not_lt hkm)]
     rw [e0] at HS'
     clear e0 hy
     go_wp2_with fail
     refine⟨?_,?_⟩
     ·refine⟨k+1,_,L.set k ((cy+x+0)%4294967296),by go_num,by go_num,by omega,by omega,by simp [hL],HB'.out _ (Nat.mod_lt _ (by decide)),HS', ?_,by go_grown⟩
      have:=HK.set k ((cy+x+0)%4294967296)
      rwa [show (((cy+x+0)%4294967296:Nat):Int)=((cy:Int)+x)%4294967296 by omega] at this
     ·simp [intOf];omega
   ·have hkn' : ¬ (k:Int)<(l.length:Int):=by omega
    have e:k=l.length:=by omega
    have hv:val (L.set l.length cy)=val l+val m:=by
     have e1:val ((L.set k cy).take (k+1))=val (L.set k cy):=val_take_all (by simp;omega)
     have e2:val (l.take k)=val l:=val_take_all (by omega)
     have e3:val (m.take k)=val m:=val_take_all (by omega)
     rw [val_take_set _ _ _ (by omega)] at e1
     rw [← e,← e1,← e2,← e3]
     exact HS
    have HB2:=Lib.hid (HB'.out cy (by omega))
    have HV:=Lib.hid hv
    subst e
    clear hv HS
    go_wp2_with fail
    have hK2:=HK.set l.length cy
    have hw:=hK2.all HB2.out (cap:=l.length+1) (by simp [hL]) (by omega)
    go_ret
    refine⟨_,_,rfl,?_,HV.out,by go_grown⟩
    simpa [hL] using hw
 ·have hle:l.length≤m.length:=by omega
  have hnc:(l.length:Int)<(m.length:Int):=by omega
  have hmk:=make_words ((m.length:Int)+1) (m.length+1) (by omega) (by omega)
  go_enter Tryz.func298,Tryz.ntmps298
  go_wp2_with fail
  go_loopw [6,22] (fun v6 v7 wr=>∃ (k cy:Nat) (L:List Nat),v6=.int .u64 cy∧v7=.int .i64 k∧k≤m.length∧cy<2∧L.length=m.length+1∧Hid (Bd L)∧Hid (val (L.take k)+4294967296^k*cy=val (m.take k)+val (l.take k))∧Blk wr w.heap.size L∧Below w.heap.size w wr) (fun _ v7 _=>m.length-(intOf v7).toNat)
  case atStart =>
   refine⟨0,0,List.replicate (m.length+1) 0,rfl,rfl,by omega,by omega,by simp,Bd.replicate _,?_,Blk.alloc _ _,?_⟩
   ·show _=_;simp [val]
   ·go_grown
  case round =>
   obtain⟨k,cy,L,rfl,rfl,hk,hcy,hL,HB,HS,HK,HW⟩:=hrel
   have hf:=HK.free k
   have hcl:=HK.cell (i:=k) (by omega)
   have HB' := Lib.hid (fun x hx=>HB.set (x:=x) hx k)
   generalize L.getD k 0=z at *
   by_cases hkn:k<m.length
   ·have hkn' : (k:Int)<(m.length:Int):=by omega
    obtain⟨b,off,rfl,hca⟩:=(H2.out.low HW).at hkn
    have hx:=Hb'.getD k;have hy:=Hb.getD k
    have HS' := Lib.hid (@add_step m l L k cy (by omega) HS)
    generalize m.getD k 0=x at *
    clear HS
    by_cases hkm:k<l.length
    ·have hkm' : (k:Int)<(l.length:Int):=by omega
     obtain⟨b', off', rfl,hca'⟩:=(H1.out.low HW).at hkm
     generalize l.getD k 0=y at *
     go_wp2_with fail
     refine⟨?_,?_⟩
     ·refine⟨k+1,_,L.set k ((cy+x+y)%4294967296),by go_num,by go_num,by omega,by omega,by simp [hL],HB'.out _ (Nat.mod_lt _ (by decide)),HS', ?_,by go_grown⟩
      have:=HK.set k ((cy+x+y)%4294967296)
      rwa [show (((cy+x+y)%4294967296:Nat):Int)=((cy:Int)+x+y)%4294967296 by omega] at this
     ·simp [intOf];omega
    ·have hkm' : ¬ (k:Int)<(l.length:Int):=by omega
     have e0:l.getD k 0=0:=by simp [List.getD_eq_getElem?_getD,List.getElem?_eq_none (Nat.le_of_not_lt hkm)]
     rw [e0] at HS'
     clear e0 hy
     go_wp2_with fail
     refine⟨?_,?_⟩
     ·refine⟨k+1,_,L.set k ((cy+x+0)%4294967296),by go_num,by go_num,by omega,by omega,by simp [hL],HB'.out _ (Nat.mod_lt _ (by decide)),HS', ?_,by go_grown⟩
      have:=HK.set k ((cy+x+0)%4294967296)
      rwa [show (((cy+x+0)%4294967296:Nat):Int)=((cy:Int)+x)%4294967296 by omega] at this
     ·simp [intOf];omega
   ·have hkn' : ¬ (k:Int)<(m.length:Int):=by omega
    have e:k=m.length:=by omega
    have hv:val (L.set m.length cy)=val m+val l:=by
     have e1:val ((L.set k cy).take (k+1))=val (L.set k cy):=val_take_all (by simp;omega)
     have e2:val (m.take k)=val m:=val_take_all (by omega)
     have e3:val (l.take k)=val l:=val_take_all (by omega)
     rw [val_take_set _ _ _ (by omega)] at e1
     rw [← e,← e1,← e2,← e3]
     exact HS
    have HB2:=Lib.hid (HB'.out cy (by omega))
    have HV:=Lib.hid hv
    subst e
    clear hv HS
    go_wp2_with fail
    have hK2:=HK.set m.length cy
    have hw:=hK2.all HB2.out (cap:=m.length+1) (by simp [hL]) (by omega)
    go_ret
    refine⟨_,_,rfl,?_,by rw [HV.out,Nat.add_comm],by go_grown⟩
    simpa [hL] using hw
theorem u64_and1(z:Int)(h0:0≤z)(h1:z<18446744073709551616):bits .and .u64 z 1=z%2:=bits_mask .u64 64 (by decide) wraps_u64 1 (by decide) z h0 h1
theorem less_digit{x y bw:Nat}(hx:x<4294967296)(hy:y<4294967296)(hb:bw<2):∃ d bw' : Nat,bits .and .u64 (IntKind.u64.wrap ((x:Int)-(bw+y))/4294967296) 1=(bw' : Int)∧IntKind.u64.wrap ((x:Int)-(bw+y))%4294967296=(d:Int)∧d<4294967296∧bw'<2∧d+y+bw=x+4294967296*bw' := by
 rw [IntKind.wrap_u64]
 rw [u64_and1 _ (by omega) (by omega)]
 by_cases h:x<bw+y
 ·exact⟨4294967296+x-y-bw,1,by omega,by omega,by omega,by omega,by omega⟩
 ·exact⟨x-y-bw,0,by omega,by omega,by omega,by omega,by omega⟩
theorem bigless_any(v v': Value)(l m:List Nat)(w:World)(h:Words w v l)(h': Words w v' m)(cm:Canon m)(hl:l.length≤549755813888)(hle:val m≤val l):Calls Tryz.prog 299 #[v,v'] w (RawRet (val l-val m) w):=by
 have Hb:=h.bd
 have Hb' := h'.bd
 have hlm:=canon_len_le Hb' Hb cm hle
 obtain⟨a,c,rfl,hc1,hc2⟩:=h.len
 obtain⟨a', c', rfl,hc1', hc2'⟩:=h'.len
 have H1:=Lib.hid h;have H2:=Lib.hid h';have HLM:=Lib.hid hlm;have HLE:=Lib.hid hle
 clear h h' cm hlm hle
 have hmk:=make_words (l.length:Int) l.length (by omega) (by omega)
 go_enter Tryz.func299,Tryz.ntmps299
 go_wp2_with fail
 go_loopw [6,16] (fun v6 v7 wr=>∃ (k bw:Nat) (L:List Nat),v6=.int .u64 bw∧v7=.int .i64 k∧k≤l.length∧bw<2∧L.length=l.length∧Hid (Bd L)∧Hid (val (L.take k)+val (m.take k)=val (l.take k)+4294967296^k*bw)∧Blk wr w.heap.size L∧Below w.heap.size w wr) (fun _ v7 _=>l.length-(intOf v7).toNat)
 case atStart =>
  refine⟨0,0,List.replicate l.length 0,rfl,rfl,by omega,by omega,by simp,Bd.replicate _,?_,Blk.alloc _ _,?_⟩
  ·show _=_;simp [val]
  ·go_grown
 case round =>
  obtain⟨k,bw,L,rfl,rfl,hk,hcy,hL,HB,HS,HK,HW⟩:=hrel
  by_cases hkn:k<l.length
  ·have hkn' : (k:Int)<(l.length:Int):=by omega
   obtain⟨b,off,rfl,hca⟩:=(H1.out.low HW).at hkn
   have hx:=Hb.getD k;have hy:=Hb'.getD k
   have HS' := Lib.hid (fun d bw' => @sub_step l m L k bw bw' d (by omega) HS)
   have hf:=HK.free k
   have hcl:=HK.cell (i:=k) (by omega)
   have HB' := Lib.hid (fun x hx=>HB.set (x:=x) hx k)
   generalize l.getD k 0=x at *
   generalize L.getD k 0=z at *
   clear HS
   by_cases hkm:k<m.length
   ·have hkm' : (k:Int)<(m.length:Int):=by omega
    obtain⟨b', off', rfl,hca'⟩:=(H2.out.low HW).at hkm
    generalize m.getD k 0=y at *
    obtain⟨d,bw', E1,E2,hd1,hd2,hd3⟩:=less_digit hx (y:=y) (bw:=bw) (by omega) hcy
    have HS2:=Lib.hid (HS'.out d bw' hd3)
    clear hd3 HS'
    go_wp2_with fail
    refine⟨?_,?_⟩
    ·exact⟨k+1,bw', L.set k d,rfl,by go_num,by omega,by omega,by simp [hL],HB'.out _ hd1,HS2,HK.set k d,by go_grown⟩
    ·simp [intOf];omega
   ·have hkm' : ¬ (k:Int)<(m.length:Int):=by omega
    have e0:m.getD k 0=0:=by simp [List.getD_eq_getElem?_getD,List.getElem?_eq_none (Nat.le_of_not_lt hkm)]
    rw [e0] at HS'
    clear e0 hy
    obtain⟨d,bw', E1,E2,hd1,hd2,hd3⟩:=less_digit hx (y:=0) (bw:=bw) (by omega) hcy
    have E1:bits .and .u64 (IntKind.u64.wrap ((x:Int)-bw)/4294967296) 1=bw' := by simpa only [Int.natCast_zero,Int.add_zero] using E1
    have E2:IntKind.u64.wrap ((x:Int)-bw)%4294967296=d:=by simpa only [Int.natCast_zero,Int.add_zero] using E2
    have HS2:=Lib.hid (HS'.out d bw' hd3)
    clear hd3 HS'
    go_wp2_with fail
    refine⟨?_,?_⟩
    ·exact⟨k+1,bw', L.set k d,rfl,by go_num,by omega,by omega,by simp [hL],HB'.out _ hd1,HS2,HK.set k d,by go_grown⟩
    ·simp [intOf];omega
  ·have hkn' : ¬ (k:Int)<(l.length:Int):=by omega
   have e:k=l.length:=by omega
   have hv:val L=val l-val m:=by
    have e1:val (L.take k)=val L:=val_take_all (by omega)
    have e2:val (l.take k)=val l:=val_take_all (by omega)
    have e3:val (m.take k)=val m:=val_take_all (by have:=HLM.out;omega)
    rw [e1,e2,e3] at HS
    have:=borrow_zero HS (by omega) HB HLE.out
    subst this
    rw [Nat.mul_zero,Nat.add_zero] at HS
    change _=_ at HS
    omega
   have hw:=HK.all HB (Nat.le_refl _) (by omega)
   rw [hL] at hw
   clear HS
   have HV:=Lib.hid hv
   clear hv
   go_wp2_with fail
   go_ret
   exact⟨_,_,rfl,hw,HV.out,HW⟩
theorem val_set(L:List Nat)(j d:Nat)(h:j<L.length):val (L.set j d)+4294967296^j*L.getD j 0=val L+4294967296^j*d:=by
 have e1:=val_split (L.set j d) (j+1) (by simp;omega)
 have e2:=val_split L (j+1) (by omega)
 rw [val_take_set _ _ _ h] at e1
 rw [val_take_succ] at e2
 have e3:(L.set j d).drop (j+1)=L.drop (j+1):=by rw [List.drop_set_of_lt (by omega)]
 rw [e3] at e1
 omega
theorem getD_set_ne(L:List Nat)(j d i:Nat)(h:i≠j):(L.set j d).getD i 0=L.getD i 0:=by
 simp [List.getD_eq_getElem?_getD,List.getElem?_set,Ne.symm h]
theorem mul_step{m L:List Nat}{i k cy cy' d x P:Nat}(hj:i+k<L.length)(h:val L+4294967296^(i+k)*cy=P+4294967296^i*x*val (m.take k))(hd:d+4294967296*cy'=cy+x*m.getD k 0+L.getD (i+k) 0):val (L.set (i+k) d)+4294967296^(i+(k+1))*cy'=P+4294967296^i*x*val (m.take (k+1)):=by
 have e:=val_set L (i+k) d hj
 rw [val_take_succ m,← Nat.add_assoc,Nat.pow_succ,Nat.mul_add,Nat.mul_assoc]
 have e2:4294967296^i*x*(4294967296^k*m.getD k 0)=4294967296^(i+k)*(x*m.getD k 0):=by
  rw [Nat.pow_add];ac_rfl
 rw [e2]
 have e3:4294967296^(i+k)*(d+4294967296*cy')=4294967296^(i+k)*(cy+x*m.getD k 0+L.getD (i+k) 0):=by rw [hd]
 generalize 4294967296^(i+k)=B at *
 simp only [Nat.mul_add] at e3
 omega
theorem mul_row{m L:List Nat}{i cy x P:Nat}(hj:i+m.length<L.length)(h:val L+4294967296^(i+m.length)*cy=P+4294967296^i*x*val (m.take m.length))(hz:L.getD (i+m.length) 0=0):val (L.set (i+m.length) cy)=P+4294967296^i*x*val m:=by
 have e:=val_set L (i+m.length) cy hj
 rw [List.take_length] at h
 rw [hz] at e
 omega
theorem mul_next(l m:List Nat)(i:Nat):val (l.take i)*val m+4294967296^i*l.getD i 0*val m=val (l.take (i+1))*val m:=by
 rw [val_take_succ,Nat.add_mul]
theorem mul_words{x y:Nat}(hx:x<4294967296)(hy:y<4294967296):x*y≤18446744065119617025 :=
 Nat.le_trans (Nat.mul_le_mul (Nat.le_of_lt_succ hx) (Nat.le_of_lt_succ hy)) (by decide)
theorem mul_digit{cy x y z:Nat}(hc:cy<4294967296)(hx:x<4294967296)(hy:y<4294967296)(hz:z<4294967296):cy+x*y+z<18446744073709551616:=by
 have:x*y≤4294967295*4294967295:=Nat.mul_le_mul (by omega) (by omega)
 omega
theorem bigproduct_any(v v': Value)(l m:List Nat)(w:World)(h:Words w v l)(h': Words w v' m)(hl:l.length≤274877906944)(hm:m.length≤274877906944):Calls Tryz.prog 291 #[v,v'] w (RawRet (val l*val m) w):=by
 have Hb:=h.bd
 have Hb' := h'.bd
 obtain⟨a,c,rfl,hc1,hc2⟩:=h.len
 obtain⟨a', c', rfl,hc1', hc2'⟩:=h'.len
 have H1:=Lib.hid h;have H2:=Lib.hid h'
 clear h h'
 have hmk:=make_words ((l.length:Int)+(m.length:Int)) (l.length+m.length) (by omega) (by omega)
 go_enter Tryz.func291,Tryz.ntmps291
 go_wp2_with fail
 go_loopw [19] (fun v7 wr=>∃ (i:Nat) (L:List Nat),v7=.int .i64 i∧i≤l.length∧L.length=l.length+m.length∧Hid (Bd L)∧Hid (val L=val (l.take i)*val m)∧Hid (∀ j,i+m.length≤j→L.getD j 0=0)∧Blk wr w.heap.size L∧Below w.heap.size w wr) (fun v7 _=>l.length-(intOf v7).toNat)
 case atStart =>
  refine⟨0,List.replicate (l.length+m.length) 0,rfl,by omega,by simp,Bd.replicate _,?_,?_,Blk.alloc _ _,?_⟩
  ·show _=_;simp [val,val_replicate]
  ·intro j _;simp [List.getD_eq_getElem?_getD,List.getElem?_replicate];split<;>rfl
  ·go_grown
 case round =>
  obtain⟨i,L0,rfl,hi,hL0,HB0,HS0,HZ0,HK0,HW0⟩:=hrel
  by_cases hin:i<l.length
  ·have hin' : (i:Int)<(l.length:Int):=by omega
   obtain⟨b,off,rfl,hca⟩:=(H1.out.low HW0).at hin
   have hx:=Hb.getD i
   have HN:=Lib.hid (mul_next l m i)
   generalize l.getD i 0=x at *
   go_wp2_with fail
   go_loopw [8,26] (fun v8 v9 wr=>∃ (k cy:Nat) (L:List Nat),v8=.int .u64 cy∧v9=.int .i64 k∧k≤m.length∧cy<4294967296∧L.length=l.length+m.length∧Hid (Bd L)∧Hid (val L+4294967296^(i+k)*cy=val (l.take i)*val m+4294967296^i*x*val (m.take k))∧Hid (∀ j,i+m.length≤j→L.getD j 0=0)∧Blk wr w.heap.size L∧Below w.heap.size w wr) (fun _ v9 _=>m.length-(intOf v9).toNat)
   case atStart =>
    refine⟨0,0,L0,rfl,rfl,by omega,by omega,hL0,HB0,?_,HZ0,HK0,HW0⟩
    show _=_
    rw [HS0.out]
    simp [val]
   case round =>
    obtain⟨k,cy,L,rfl,rfl,hk,hcy,hL,HB,HS,HZ,HK,HW⟩:=hrel
    by_cases hkn:k<m.length
    ·have hkn' : (k:Int)<(m.length:Int):=by omega
     obtain⟨b', off', rfl,hca'⟩:=(H2.out.low HW).at hkn
     have hy:=Hb'.getD k
     have HS' := Lib.hid (fun d cy' => @mul_step m L i k cy cy' d x _ (by omega) HS)
     have hf:=HK.free (i+k)
     have hcl:=HK.cell (i:=i+k) (by omega)
     have hz:=HB.out.getD (i+k)
     have HB' := Lib.hid (fun x hx=>HB.set (x:=x) hx (i+k))
     have HZ' := Lib.hid (fun d j (hj:i+m.length≤j)=>(getD_set_ne L (i+k) d j (by omega)).trans (HZ.out j hj))
     generalize L.getD (i+k) 0=z at *
     generalize m.getD k 0=y at *
     have hdig:=mul_digit hcy hx hy hz
     have hxy:x*y≤18446744065119617025:=mul_words hx hy
     have exy:(x:Int)*(y:Int)=((x*y:Nat):Int):=by simp
     generalize x*y=p at *
     clear HS HZ
     go_wp2_with fail
     refine⟨?_,?_⟩
     ·refine⟨k+1,(cy+p+z)/4294967296,L.set (i+k) ((cy+p+z)%4294967296),by go_num,by go_num,by omega,by omega,by simp [hL],HB'.out _ (Nat.mod_lt _ (by decide)),HS'.out _ _ (Nat.mod_add_div _ _),HZ'.out _,?_,by go_grown⟩
      have:=HK.set (i+k) ((cy+p+z)%4294967296)
      rwa [show (((cy+p+z)%4294967296:Nat):Int)=((cy:Int)+(p+z))%4294967296 by omega] at this
     ·simp [intOf];omega
    ·have hkn' : ¬ (k:Int)<(m.length:Int):=by omega
     have e:k=m.length:=by omega
     subst e
     have HV:=Lib.hid ((mul_row (by omega) HS (HZ.out _ (Nat.le_refl _))).trans HN.out)
     have HB2:=Lib.hid (HB.out.set hcy (i+m.length))
     have HZ2:=Lib.hid (fun j (hj:i+1+m.length≤j)=>(getD_set_ne L (i+m.length) cy j (by omega)).trans (HZ.out j (by omega)))
     have hf:=HK.free (i+m.length)
     have hcl:=HK.cell (i:=i+m.length) (by omega)
     generalize L.getD (i+m.length) 0=z at *
     clear HS HZ
     go_wp2_with fail
     refine⟨?_,?_⟩
     ·exact⟨i+1,L.set (i+m.length) cy,by go_num,by omega,by simp [hL],HB2,HV,HZ2,HK.set _ _,by go_grown⟩
     ·simp [intOf];omega
  ·have hin' : ¬ (i:Int)<(l.length:Int):=by omega
   have e:i=l.length:=by omega
   have HV:Hid (val L0=val l*val m):=by rw [e,List.take_length] at HS0;exact HS0
   have hw:=HK0.all HB0 (Nat.le_refl _) (by omega)
   rw [hL0] at hw
   clear HS0 HZ0
   go_wp2_with fail
   go_ret
   exact⟨_,_,rfl,hw,HV.out,HW0⟩
theorem refproduct_any(v v': Value)(l m:List Nat)(w:World)(h:Words w v l)(h': Words w v' m)(hl:l.length≤274877906944)(hm:m.length≤274877906944):Calls Tryz.prog 265 #[v,v'] w (MagRet (val l*val m) w):=by
 have Hb:=h.bd
 have Hb' := h'.bd
 obtain⟨a,c,rfl,hc1,hc2⟩:=h.len
 obtain⟨a', c', rfl,hc1', hc2'⟩:=h'.len
 have H1:=Lib.hid h;have H2:=Lib.hid h'
 clear h h'
 have hmk:=make_words ((l.length:Int)+(m.length:Int)) (l.length+m.length) (by omega) (by omega)
 go_enter Tryz.func265,Tryz.ntmps265
 go_wp2_with fail
 go_loopw [6] (fun v7 wr=>∃ (i:Nat) (L:List Nat),v7=.int .i64 i∧i≤l.length∧L.length=l.length+m.length∧Hid (Bd L)∧Hid (val L=val (l.take i)*val m)∧Hid (∀ j,i+m.length≤j→L.getD j 0=0)∧Blk wr w.heap.size L∧Below w.heap.size w wr) (fun v7 _=>l.length-(intOf v7).toNat)
 case atStart =>
  refine⟨0,List.replicate (l.length+m.length) 0,rfl,by omega,by simp,Bd.replicate _,?_,?_,Blk.alloc _ _,?_⟩
  ·show _=_;simp [val,val_replicate]
  ·intro j _;simp [List.getD_eq_getElem?_getD,List.getElem?_replicate];split<;>rfl
  ·go_grown
 case round =>
  obtain⟨i,L0,rfl,hi,hL0,HB0,HS0,HZ0,HK0,HW0⟩:=hrel
  by_cases hin:i<l.length
  ·have hin' : (i:Int)<(l.length:Int):=by omega
   obtain⟨b,off,rfl,hca⟩:=(H1.out.low HW0).at hin
   have hx:=Hb.getD i
   have HN:=Lib.hid (mul_next l m i)
   generalize l.getD i 0=x at *
   go_wp2_with fail
   go_loopw [7,9] (fun v8 v9 wr=>∃ (k cy:Nat) (L:List Nat),v8=.int .u64 cy∧v9=.int .i64 k∧k≤m.length∧cy<4294967296∧L.length=l.length+m.length∧Hid (Bd L)∧Hid (val L+4294967296^(i+k)*cy=val (l.take i)*val m+4294967296^i*x*val (m.take k))∧Hid (∀ j,i+m.length≤j→L.getD j 0=0)∧Blk wr w.heap.size L∧Below w.heap.size w wr) (fun _ v9 _=>m.length-(intOf v9).toNat)
   case atStart =>
    refine⟨0,0,L0,rfl,rfl,by omega,by omega,hL0,HB0,?_,HZ0,HK0,HW0⟩
    show _=_
    rw [HS0.out]
    simp [val]
   case round =>
    obtain⟨k,cy,L,rfl,rfl,hk,hcy,hL,HB,HS,HZ,HK,HW⟩:=hrel
    by_cases hkn:k<m.length
    ·have hkn' : (k:Int)<(m.length:Int):=by omega
     obtain⟨b', off', rfl,hca'⟩:=(H2.out.low HW).at hkn
     have hy:=Hb'.getD k
     have HS' := Lib.hid (fun d cy' => @mul_step m L i k cy cy' d x _ (by omega) HS)
     have hf:=HK.free (i+k)
     have hcl:=HK.cell (i:=i+k) (by omega)
     have hz:=HB.out.getD (i+k)
     have HB' := Lib.hid (fun x hx=>HB.set (x:=x) hx (i+k))
     have HZ' := Lib.hid (fun d j (hj:i+m.length≤j)=>(getD_set_ne L (i+k) d j (by omega)).trans (HZ.out j hj))
     generalize L.getD (i+k) 0=z at *
     generalize m.getD k 0=y at *
     have hdig:=mul_digit hcy hx hy hz
     have hxy:x*y≤18446744065119617025:=mul_words hx hy
     have exy:(x:Int)*(y:Int)=((x*y:Nat):Int):=by simp
     generalize x*y=p at *
     clear HS HZ
     have hd1:∀ n:Nat,(wr.drewN n).cell? ⟨b', off'+k,none⟩=some (.int .u32 (y:Int)):=fun _=>hca'
     have hd2:∀ n:Nat,(wr.drewN n).cell? ⟨w.heap.size,i+k,none⟩=some (.int .u32 (z:Int)):=fun _=>hcl
     have hd3:∀ n:Nat,(wr.drewN n).frozen? ⟨w.heap.size,i+k,none⟩=false:=fun _=>hf
     go_wp2_with fail
     go_quiet (fail)
     go_wp2_with fail
     refine⟨?_,?_⟩
     ·refine⟨k+1,(cy+p+z)/4294967296,L.set (i+k) ((cy+p+z)%4294967296),by go_num,by go_num,by omega,by omega,by simp [hL],HB'.out _ (Nat.mod_lt _ (by decide)),HS'.out _ _ (Nat.mod_add_div _ _),HZ'.out _,?_,Below.setCell (below_drewN HW _) (Nat.le_refl _) _⟩
      have:=fun n=>(HK.drewN n).set (i+k) ((cy+p+z)%4294967296)
      rw [show (((cy+p+z)%4294967296:Nat):Int)=((cy:Int)+p+z)%4294967296 by omega] at this
      exact this _
     ·simp [intOf];omega
    ·have hkn' : ¬ (k:Int)<(m.length:Int):=by omega
     have e:k=m.length:=by omega
     subst e
     have HV:=Lib.hid ((mul_row (by omega) HS (HZ.out _ (Nat.le_refl _))).trans HN.out)
     have HB2:=Lib.hid (HB.out.set hcy (i+m.length))
     have HZ2:=Lib.hid (fun j (hj:i+1+m.length≤j)=>(getD_set_ne L (i+m.length) cy j (by omega)).trans (HZ.out j (by omega)))
     have hf:=HK.free (i+m.length)
     have hcl:=HK.cell (i:=i+m.length) (by omega)
     generalize L.getD (i+m.length) 0=z at *
     clear HS HZ
     go_wp2_with fail
     refine⟨?_,?_⟩
     ·exact⟨i+1,L.set (i+m.length) cy,by go_num,by omega,by simp [hL],HB2,HV,HZ2,HK.set _ _,by go_grown⟩
     ·simp [intOf];omega
  ·have hin' : ¬ (i:Int)<(l.length:Int):=by omega
   have e:i=l.length:=by omega
   have HV:Hid (val L0=val l*val m):=by rw [e,List.take_length] at HS0;exact HS0
   have hw:=HK0.all HB0 (Nat.le_refl _) (by omega)
   rw [hL0] at hw
   clear HS0 HZ0
   have hcut:=refcut_any (.slice (some ⟨w.heap.size,0,none⟩) (l.length+m.length) (l.length+m.length)) L0 wr hw
   go_wp2_with fail
   go_call hcut as _ _ ⟨rfl,rfl⟩
   go_wp2
   go_ret
   exact⟨_,rfl,⟨_,hw.cut,trim_canon L0,by rw [val_trim,HV.out]⟩,HW0⟩
def u32s(l:List Nat):List Value:=l.map fun (x:Nat)=>Value.int .u32 (x:Int)
def Own(B:Nat)(w:World)(v:Value)(L:List Nat):Prop:=w.ownsRow B 315 1 v L.length (u32s L)∧Bd L
theorem Own.words{B:Nat}{w:World}{v:Value}{L:List Nat}(h:Own B w v L):Words w v L:=by
 obtain⟨⟨h1,h2⟩,hb⟩:=h
 rcases h2 with⟨rfl,h3⟩|⟨g,cap,cur,rfl,h3,h4,h5,h6,h7,h8⟩
 ·exact .inl ⟨rfl,List.length_eq_zero_iff.1 h3⟩
 ·refine .inr ⟨g,0,cap,cur,_,rfl,h4,h5,by simp only [maxLen] at h6;omega,fun i x hx=>⟨?_,hb x (List.mem_of_getElem? hx)⟩⟩
  have:(u32s L)[i]? = some (.int .u32 (x:Int)):=by simp [u32s,hx]
  rw [← h8,List.getElem?_take] at this
  split at this
  ·simpa using this
  ·cases this
theorem Own.nil(B:Nat)(w:World):Own B w (.slice none 0 0) []:=⟨World.ownsRow_nil _ _ _ _,Bd.nil⟩
theorem Own.made{B:Nat}{w:World}(hB:B≤w.heap.size)(l:List Nat)(hl:l.length≤9223372036854775807):Own B (w.alloc (.cells (wcells l) 315)) (.slice (some ⟨w.heap.size,0,none⟩) 0 l.length) [] :=
 ⟨World.ownsRow_made w _ _ hB (by simp only [maxLen];omega) (by simp [wcells_size]),Bd.nil⟩
theorem Own.push{B:Nat}{w w': World}{v v': Value}{L:List Nat}{x:Nat}(h:Own B w v L)(hx:x<4294967296)(hw:w'.ownsRow B 315 1 v' (L.length+1) (u32s L++[.int .u32 (x:Int)])):Own B w' v' (L++[x]):=by
 refine⟨?_,h.2.append (Bd.cons hx Bd.nil)⟩
 simpa [u32s] using hw
theorem Own.below{B:Nat}{w0 w w': World}{v:Value}{L:List Nat}(h:Own B w v L)(hb:Below B w0 w)(hg:w.grownBy w' v.ownBlock)(hB:B≤w.heap.size):Below B w0 w' :=
 Below.grown hb hg hB (fun k hk=>(h.1.lt k hk).1)
theorem wpList_push{ops:Array Oper}{rest:List Oper}{o:Oper}{a:Act}{Q:Exit→Act→World→Prop}{W w:World}(hgd:o.guard=none)(s x:Operand)(ho:o.op=.call { callee:=.builtin .append,args:=#[s,x],argTypes:=#[208,208] })(B:Nat)(v:Value)(L:List Nat)(n:Nat)(z:Int)(hO:Own B w v L)(hW:Below B W w)(hB:B≤w.heap.size)(hs:a.eval s=v)(hx:a.eval x=.slice (some ⟨w.heap.size,0,none⟩) 1 1)(hz:z=(n:Int))(hn:n<4294967296)(hL:L.length≤1099511627776)(h:∀ v' w', Own B w' v' (L++[n])→Below B W w'→wpList Tryz.prog ops Q rest (a.put o.dst v') w'):wpList Tryz.prog ops Q (o::rest) a (w.alloc (.cells #[.int .u32 z] 315)):=by
 subst hz
 obtain⟨i0,hi,hz0,hz1,hz2⟩:=info_parts info_u32
 refine wpList_append_own _ hgd s x 208 ho B 315 i0 (.int .u32 0) 1 4 Tryz.underlying208 hi hz0 hz1 hz2 rfl (by decide) v L.length _ hs (hO.1.alloc _) ⟨w.heap.size,0,none⟩ 1 1 [.int .u32 (n:Int)] hx rfl ?_ ?_ ?_ ?_ ?_ ?_
 ·intro j u hj
  match j,hj with
  | 0,hj=>simp at hj;subst hj;show World.cell? _ ⟨w.heap.size,0,none⟩=_;unfold World.cell?;simp only [];rw [(MapKept.heap_alloc w _).1];rfl
 ·intro u hu;simp at hu;subst hu;rfl
 ·simp only [maxLen];omega
 ·omega
 ·simp;omega
 ·intro v' w' h2 h3 _
  exact h v' w' (hO.push hn h2) (Below.grown (hW.alloc hB _) h3 (by simp;omega) (fun k hk=>((hO.1.alloc (.cells #[.int .u32 (n:Int)] 315)).lt k hk).1))
theorem make_empty(z z': Int)(n:Nat)(hz:z=0)(hz': z'=n)(hn:n≤1099511627776)(u:World):(Instr.makeSlice 208 (.int .i64 z) (.int .i64 z')).run Tryz.prog u =
   .ok (.slice (some ⟨u.heap.size,0,none⟩) 0 n) (u.alloc (.cells (wcells (List.replicate n 0)) 315)):=by
 subst hz
 subst hz'
 obtain⟨i0,hi,hz0,hz1,hz2⟩:=info_parts info_u32
 have h:=run_make (P:=Tryz.prog) u 208 315 i0 (.int .u32 0) Tryz.underlying208 hi hz0 .i64 .i64 0 (n:Int) (by omega) (by omega) (by rw [hz2];omega) (by omega)
 rw [← made_wcells]
 simpa [hz1,Value.cells] using h
theorem val_snoc(L:List Nat)(x:Nat):val (L++[x])=val L+4294967296^L.length*x:=by
 rw [val_append];simp [val]
theorem up_step{l L:List Nat}{k cy p:Nat}(hL:L.length=k)(h:val L+4294967296^k*cy=val (l.take k)*p):val (L++[(cy+l.getD k 0*p)%4294967296])+4294967296^(k+1)*((cy+l.getD k 0*p)/4294967296)=val (l.take (k+1))*p:=by
 rw [val_snoc,val_take_succ,Nat.add_mul,← h,hL,Nat.pow_succ,Nat.mul_assoc,Nat.mul_assoc,Nat.add_assoc,← Nat.mul_add,Nat.mod_add_div,Nat.mul_add]
 omega
theorem or_shl{cy x p s:Nat}(hp:p=2^s)(hs:s<32)(hc:cy<p)(hx:x<4294967296):bits .or .u64 (cy:Int) ((x*p:Nat):Int)=(cy:Int)+((x*p:Nat):Int):=by
 have hp1:p≤2147483648:=by rw [hp];exact Nat.pow_le_pow_right (n:=2) (by decide) (by omega:s≤31)
 have hx1:x*p≤4294967295*2147483648:=Nat.mul_le_mul (by omega) hp1
 refine bits_join_low .u64 64 (by decide) wraps_u64 s _ _ (by omega) ?_ (by omega) (by omega) ?_ (by omega)
 ·rw [show (2:Int)^s=(p:Int) by rw [hp];simp];omega
 ·rw [show (2:Int)^s=(p:Int) by rw [hp];simp];simp
theorem refup_any(v:Value)(l:List Nat)(s:Nat)(w:World)(h:Words w v l)(hs:s<32)(hl:l.length≤274877906944):Calls Tryz.prog 313 #[v,.int .i64 s] w (MagRet (val l*2^s) w):=by
 have Hb:=h.bd
 obtain⟨a,c,rfl,hc1,hc2⟩:=h.len
 have H1:=Lib.hid h
 clear h
 by_cases hl0:l.length=0
 ·have e:l=[]:=List.length_eq_zero_iff.1 hl0
  subst e
  go_enter Tryz.func313,Tryz.ntmps313
  go_wp2_with fail
  go_ret
  refine⟨_,rfl,⟨[],.inl ⟨rfl,rfl⟩,?_,?_⟩,Below.refl _ _⟩
  ·simp [Canon]
  ·simp [val]
 have hl1:((l.length:Int) == 0)=false:=by rw [beq_eq_false_iff_ne];omega
 have hmk:=make_empty ((s:Int)/32) ((s:Int)/32+(l.length:Int)+1) (l.length+1) (by omega) (by omega) (by omega)
 obtain⟨p,hp⟩:∃ p,p=2^s:=⟨_,rfl⟩
 have hpI:(2:Int)^s=(p:Int):=by rw [hp];simp
 have hp1:p≤2147483648:=by rw [hp];exact Nat.pow_le_pow_right (n:=2) (by decide) (by omega:s≤31)
 have hp0:0<p:=by rw [hp];exact Nat.pow_pos (by decide)
 rw [← hp]
 clear hp
 have e0:(s:Int)/32=0:=by omega
 have e1:(s:Int)%32=s:=by omega
 have e2:s%32=s:=by omega
 rw [e0,Int.zero_add] at hmk
 go_enter Tryz.func313,Tryz.ntmps313
 go_wp2_with fail
 go_loopw [5,6,7] (fun v5 v6 v7 wr=>∃ (k cy:Nat) (L:List Nat),v6=.int .u64 cy∧v7=.int .i64 k∧k≤l.length∧cy<p∧L.length=k∧Hid (val L+4294967296^k*cy=val (l.take k)*p)∧Own w.heap.size wr v5 L∧Below w.heap.size w wr) (fun _ _ v7 _=>l.length-(intOf v7).toNat)
 case atStart =>
  refine⟨0,0,[],rfl,rfl,by omega,hp0,rfl,?_,?_,?_⟩
  ·show _=_;simp [val]
  ·have:=Own.made (Nat.le_refl w.heap.size) (List.replicate (l.length+1) 0) (by simp;omega)
   simpa using this
  ·go_grown
 case round =>
  obtain⟨k,cy,L,rfl,rfl,hk,hcy,hL,HS,HO,HW⟩:=hrel
  obtain⟨i0,hi,hz0,hz1,hz2⟩:=info_parts info_u32
  by_cases hkn:k<l.length
  ·have hkn' : (k:Int)<(l.length:Int):=by omega
   obtain⟨b,off,rfl,hca⟩:=(H1.out.low HW).at hkn
   have hx:=Hb.getD k
   have HS' := Lib.hid (up_step hL HS)
   generalize l.getD k 0=x at *
   have hq:x*p≤4294967295*p:=Nat.mul_le_mul_right _ (by omega)
   have eq:(x:Int)*(p:Int)=((x*p:Nat):Int):=by simp
   generalize x*p=q at *
   clear HS
   have hB:=HW.size
   go_wp2_with (first|(at_builtin;go_loud (refine wpList_push rfl _ _ rfl w.heap.size _ L ((cy+q)%4294967296) _ HO HW hB rfl rfl (by omega) (by omega) (by omega) ?_;intro v' w1 HO1 HW1)))
   refine⟨?_,?_⟩
   ·exact⟨k+1,(cy+q)/4294967296,_,by go_num,by go_num,by omega,by omega,by simp [hL],HS', HO1,HW1⟩
   ·simp [intOf];omega
  ·have hkn' : ¬ (k:Int)<(l.length:Int):=by omega
   have e:k=l.length:=by omega
   have HV:Hid (val (L++[cy])=val l*p):=by rw [val_snoc,hL];rw [e,List.take_length,← e] at HS;exact HS
   clear HS
   have hB:=HW.size
   go_wp2_with (first|(at_builtin;refine wpList_push rfl _ _ rfl w.heap.size _ L cy _ HO HW hB rfl rfl (by omega) (by omega) (by omega) ?_;intro v' w1 HO1 HW1))
   go_call (refcut_any _ _ _ HO1.words) as _ _ ⟨rfl,rfl⟩
   go_wp2
   go_ret
   exact⟨_,rfl,⟨_,HO1.words.cut,trim_canon _,by rw [val_trim,HV.out]⟩,HW1⟩
theorem bigleft_any(v:Value)(l:List Nat)(s:Nat)(w:World)(h:Words w v l)(hs:s<32)(hl:l.length≤274877906944):Calls Tryz.prog 302 #[v,.int .i64 s] w (MagRet (val l*2^s) w):=by
 have Hb:=h.bd
 obtain⟨a,c,rfl,hc1,hc2⟩:=h.len
 have H1:=Lib.hid h
 clear h
 have hmk:=make_empty ((s:Int)/32) ((s:Int)/32+(l.length:Int)+1) (l.length+1) (by omega) (by omega) (by omega)
 obtain⟨p,hp⟩:∃ p,p=2^s:=⟨_,rfl⟩
 have hpI:(2:Int)^s=(p:Int):=by rw [hp];simp
 have hp1:p≤2147483648:=by rw [hp];exact Nat.pow_le_pow_right (n:=2) (by decide) (by omega:s≤31)
 have hp0:0<p:=by rw [hp];exact Nat.pow_pos (by decide)
 rw [← hp]
 have hor:=fun (cy x:Nat) (h1:cy<p) (h2:x<4294967296)=>or_shl hp hs h1 h2
 have HOR:=Lib.hid hor
 clear hp hor
 have e0:(s:Int)/32=0:=by omega
 have e1:(s:Int)%32=s:=by omega
 have e2:s%32=s:=by omega
 rw [e0,Int.zero_add] at hmk
 go_enter Tryz.func302,Tryz.ntmps302
 go_wp2_with fail
 go_loopw [5,6,20] (fun v5 v6 v7 wr=>∃ (k cy:Nat) (L:List Nat),v6=.int .u64 cy∧v7=.int .i64 k∧k≤l.length∧cy<p∧L.length=k∧Hid (val L+4294967296^k*cy=val (l.take k)*p)∧Own w.heap.size wr v5 L∧Below w.heap.size w wr) (fun _ _ v7 _=>l.length-(intOf v7).toNat)
 case atStart =>
  refine⟨0,0,[],rfl,rfl,by omega,hp0,rfl,?_,?_,?_⟩
  ·show _=_;simp [val]
  ·have:=Own.made (Nat.le_refl w.heap.size) (List.replicate (l.length+1) 0) (by simp;omega)
   simpa using this
  ·go_grown
 case round =>
  obtain⟨k,cy,L,rfl,rfl,hk,hcy,hL,HS,HO,HW⟩:=hrel
  obtain⟨i0,hi,hz0,hz1,hz2⟩:=info_parts info_u32
  by_cases hkn:k<l.length
  ·have hkn' : (k:Int)<(l.length:Int):=by omega
   obtain⟨b,off,rfl,hca⟩:=(H1.out.low HW).at hkn
   have hx:=Hb.getD k
   have HS' := Lib.hid (up_step hL HS)
   generalize l.getD k 0=x at *
   have hq:x*p≤4294967295*p:=Nat.mul_le_mul_right _ (by omega)
   have eq:(x:Int)*(p:Int)=((x*p:Nat):Int):=by simp
   have hor:=HOR.out cy x hcy hx
   generalize x*p=q at *
   clear HS
   have hB:=HW.size
   go_wp2_with (first|(at_builtin;go_loud (refine wpList_push rfl _ _ rfl w.heap.size _ L ((cy+q)%4294967296) _ HO HW hB rfl rfl (by omega) (by omega) (by omega) ?_;intro v' w1 HO1 HW1)))
   refine⟨?_,?_⟩
   ·exact⟨k+1,(cy+q)/4294967296,_,by go_num,by go_num,by omega,by omega,by simp [hL],HS', HO1,HW1⟩
   ·simp [intOf];omega
  ·have hkn' : ¬ (k:Int)<(l.length:Int):=by omega
   have e:k=l.length:=by omega
   have HV:Hid (val (L++[cy])=val l*p):=by rw [val_snoc,hL];rw [e,List.take_length,← e] at HS;exact HS
   clear HS
   have hB:=HW.size
   go_wp2_with (first|(at_builtin;refine wpList_push rfl _ _ rfl w.heap.size _ L cy _ HO HW hB rfl rfl (by omega) (by omega) (by omega) ?_;intro v' w1 HO1 HW1))
   go_call (bigcut_any _ _ _ HO1.words) as _ _ ⟨rfl,rfl⟩
   go_wp2
   go_ret
   exact⟨_,rfl,⟨_,HO1.words.cut,trim_canon _,by rw [val_trim,HV.out]⟩,HW1⟩
theorem Own.drewN{B:Nat}{w:World}{v:Value}{L:List Nat}(h:Own B w v L)(n:Nat):Own B (w.drewN n) v L:=h
theorem val_head(l:List Nat):val l=l.getD 0 0+4294967296*val (l.drop 1):=by
 cases l<;>simp [val]
theorem val_div{l:List Nat}(hb:Bd l)(k:Nat):val l/4294967296^k=val (l.drop k):=by
 rcases Nat.lt_or_ge l.length k with hk|hk
 ·rw [List.drop_eq_nil_of_le (by omega),Nat.div_eq_of_lt]
  ·rfl
  ·exact Nat.lt_of_lt_of_le (val_lt hb) (Nat.pow_le_pow_right (by decide) (by omega))
 ·have h1:=val_lt (hb.take k)
  rw [List.length_take,Nat.min_eq_left hk] at h1
  rw [val_split l k hk,Nat.add_mul_div_left _ _ (Nat.pow_pos (by decide)),Nat.div_eq_of_lt h1,Nat.zero_add]
theorem getD_drop(l:List Nat)(k i:Nat):(l.drop k).getD i 0=l.getD (k+i) 0:=by
 simp [List.getD_eq_getElem?_getD]
theorem down_digit{l:List Nat}(hb:Bd l){k p s:Nat}(hp:p=2^s)(hs:s≤32):(val l/p)%4294967296^(k+1)=(val l/p)%4294967296^k+4294967296^k*((l.getD (k+1) 0*4294967296+l.getD k 0)/p%4294967296):=by
 rw [Nat.pow_succ,Nat.mod_mul,Nat.div_div_eq_div_mul,Nat.mul_comm p,← Nat.div_div_eq_div_mul,val_div hb,val_head (l.drop k),List.drop_drop,val_head (l.drop (k+1)),getD_drop,getD_drop]
 simp only [Nat.add_zero]
 generalize l.getD k 0=x
 generalize l.getD (k+1) 0=y
 generalize val ((l.drop (k+1)).drop 1)=R
 congr 2
 have hB:4294967296=p*2^(32-s):=by rw [hp,← Nat.pow_add,show s+(32-s)=32 by omega]
 have e:x+4294967296*(y+4294967296*R)=y*4294967296+x+p*(2^(32-s)*R*4294967296):=by
  rw [Nat.mul_add,Nat.mul_comm y,← Nat.mul_assoc p,← Nat.mul_assoc p,← hB,Nat.mul_comm (4294967296*R)]
  omega
 rw [e,Nat.add_mul_div_left _ _ (by rw [hp];exact Nat.pow_pos (by decide)),Nat.add_mul_mod_self_right]
theorem refdown_any(v:Value)(l:List Nat)(s:Nat)(w:World)(h:Words w v l)(hs:s<32)(hl:l.length≤274877906944):Calls Tryz.prog 323 #[v,.int .i64 s] w (MagRet (val l/2^s) w):=by
 have Hb:=h.bd
 obtain⟨a,c,rfl,hc1,hc2⟩:=h.len
 have H1:=Lib.hid h
 clear h
 obtain⟨p,hp⟩:∃ p,p=2^s:=⟨_,rfl⟩
 have hpI:(2:Int)^s=(p:Int):=by rw [hp];simp
 have hp1:p≤2147483648:=by rw [hp];exact Nat.pow_le_pow_right (n:=2) (by decide) (by omega:s≤31)
 have hp0:0<p:=by rw [hp];exact Nat.pow_pos (by decide)
 rw [← hp]
 have HST:=Lib.hid (fun k=>@down_digit l Hb k p s hp (by omega))
 clear hp
 have e0:(s:Int)/32=0:=by omega
 have e1:(s:Int)%32=s:=by omega
 have e2:s%32=s:=by omega
 go_enter Tryz.func323,Tryz.ntmps323
 go_wp2_with fail
 go_loopw [5,6] (fun v5 v7 wr=>∃ (k:Nat) (L:List Nat),v7=.int .i64 k∧k≤l.length∧L.length=k∧Hid (val L=(val l/p)%4294967296^k)∧Own w.heap.size wr v5 L∧Below w.heap.size w wr) (fun _ v7 _=>l.length-(intOf v7).toNat)
 case atStart =>
  refine⟨0,[],rfl,by omega,rfl,?_,Own.nil _ _,?_⟩
  ·show _=_;simp [val,Nat.mod_one]
  ·go_grown
 case round =>
  obtain⟨k,L,rfl,hk,hL,HS,HO,HW⟩:=hrel
  by_cases hkn:k<l.length
  ·have hkn' : (k:Int)<(l.length:Int):=by omega
   obtain⟨b,off,rfl,hca⟩:=(H1.out.low HW).at hkn
   have ha:∀ n,Calls Tryz.prog 290 #[.slice (some ⟨b,off,none⟩) l.length c,.int .i64 ((k:Int)+1)] (wr.drewN n) fun e w' => e=.returned (.int .u64 (l.getD (k+1) 0:Nat))∧w'=wr.drewN n :=
    fun n=>(at_any (.slice (some ⟨b,off,none⟩) l.length c) l (k+1) (wr.drewN n) ((H1.out.low HW).drewN n) (by omega)).mono fun _ _ ⟨h1,h2⟩=>⟨h1,h2.symm⟩
   have hx:=Hb.getD k
   have hy:=Hb.getD (k+1)
   have HS' : Hid (val (L++[(l.getD (k+1) 0*4294967296+l.getD k 0)/p%4294967296])=(val l/p)%4294967296^(k+1)):=by
    show _=_
    rw [val_snoc,hL,HST.out,HS.out]
   generalize l.getD k 0=x at *
   generalize l.getD (k+1) 0=y at *
   have hcd:∀ n:Nat,(wr.drewN n).cell? ⟨b,off+k,none⟩=some (.int .u32 (x:Int)):=fun _=>hca
   have ha' := fun n=>Lib.hid (ha n)
   have hq:(y*4294967296+x)/p≤y*4294967296+x:=Nat.div_le_self _ _
   have eq:((y:Int)*4294967296+(x:Int))/(p:Int)=(((y*4294967296+x)/p:Nat):Int):=by simp
   generalize (y*4294967296+x)/p=q at *
   clear HS ha
   go_wp2_with fail
   go_quiet ((go_at_call 290;exact Calls.quiet_of_same (ha' _).out))
   have hB:=HW.size
   go_wp2_with (first|(at_builtin;refine wpList_push (w:=wr.drewN nq) rfl _ _ rfl w.heap.size _ L (q%4294967296) _ (HO.drewN nq) (below_drewN HW nq) hB rfl rfl (by omega) (by omega) (by omega) ?_;intro v' w1 HO1 HW1))
   refine⟨?_,?_⟩
   ·exact⟨k+1,_,by go_num,by omega,by simp [hL],HS', HO1,HW1⟩
   ·simp [intOf];omega
  ·have hkn' : ¬ (k:Int)<(l.length:Int):=by omega
   have e:k=l.length:=by omega
   have HV:Hid (val L=val l/p):=by
    show _=_
    rw [HS.out,e,Nat.mod_eq_of_lt]
    exact Nat.lt_of_le_of_lt (Nat.div_le_self _ _) (val_lt Hb)
   clear HS
   go_wp2_with fail
   go_call (refcut_any _ _ _ HO.words) as _ _ ⟨rfl,rfl⟩
   go_wp2
   go_ret
   exact⟨_,rfl,⟨_,HO.words.cut,trim_canon _,by rw [val_trim,HV.out]⟩,HW⟩
theorem or_hi{x y:Nat}(hx:x<4294967296)(hy:y<4294967296):bits .or .u64 (x:Int) ((y:Int)*4294967296)=(x:Int)+(y:Int)*4294967296 :=
 u64_or32 _ _ (by omega) (by omega) (by omega) (by omega) (by omega)
theorem bigright_any(v:Value)(l:List Nat)(s:Nat)(w:World)(h:Words w v l)(hs:s<32)(hl:l.length≤274877906944):Calls Tryz.prog 320 #[v,.int .i64 s] w (MagRet (val l/2^s) w):=by
 have Hb:=h.bd
 obtain⟨a,c,rfl,hc1,hc2⟩:=h.len
 have H1:=Lib.hid h
 clear h
 obtain⟨p,hp⟩:∃ p,p=2^s:=⟨_,rfl⟩
 have hpI:(2:Int)^s=(p:Int):=by rw [hp];simp
 have hp1:p≤2147483648:=by rw [hp];exact Nat.pow_le_pow_right (n:=2) (by decide) (by omega:s≤31)
 have hp0:0<p:=by rw [hp];exact Nat.pow_pos (by decide)
 rw [← hp]
 have HST:=Lib.hid (fun k=>@down_digit l Hb k p s hp (by omega))
 clear hp
 have e0:(s:Int)/32=0:=by omega
 have e1:(s:Int)%32=s:=by omega
 have e2:s%32=s:=by omega
 by_cases hl0:l.length=0
 ·have e:l=[]:=List.length_eq_zero_iff.1 hl0
  subst e
  go_enter Tryz.func320,Tryz.ntmps320
  go_wp2_with fail
  go_ret
  refine⟨_,rfl,⟨[],.inl ⟨rfl,rfl⟩,?_,?_⟩,Below.refl _ _⟩
  ·simp [Canon]
  ·simp [val]
 obtain⟨b,off,rfl,_⟩:=H1.out.at (k:=0) (by omega)
 have hlp:¬ (l.length:Int)≤0:=by omega
 have hmk:=make_words (l.length:Int) l.length (by omega) (by omega)
 go_enter Tryz.func320,Tryz.ntmps320
 go_wp2_with fail
 go_loopw [23] (fun v7 wr=>∃ (k:Nat) (L:List Nat),v7=.int .i64 k∧k≤l.length∧L.length=l.length∧Hid (Bd L)∧Hid (val (L.take k)=(val l/p)%4294967296^k)∧Blk wr w.heap.size L∧Below w.heap.size w wr) (fun v7 _=>l.length-(intOf v7).toNat)
 case atStart =>
  refine⟨0,List.replicate l.length 0,rfl,by omega,by simp,Bd.replicate _,?_,Blk.alloc _ _,?_⟩
  ·show _=_;simp [val,Nat.mod_one]
  ·go_grown
 case round =>
  obtain⟨k,L,rfl,hk,hL,HB,HS,HK,HW⟩:=hrel
  by_cases hkn:k<l.length
  ·have hkn' : (k:Int)<(l.length:Int):=by omega
   obtain⟨b', off', e', hca⟩:=(H1.out.low HW).at hkn
   cases e'
   have hx:=Hb.getD k
   have hy:=Hb.getD (k+1)
   have hf:=HK.free k
   have hcl:=HK.cell (i:=k) (by omega)
   have HB' := Lib.hid (fun x hx=>HB.set (x:=x) hx k)
   have HS' : Hid (val ((L.set k ((l.getD (k+1) 0*4294967296+l.getD k 0)/p%4294967296)).take (k+1))=(val l/p)%4294967296^(k+1)):=by
    show _=_
    rw [val_take_set _ _ _ (by omega),HST.out,HS.out]
   have hor:=or_hi hx hy
   generalize L.getD k 0=z at *
   by_cases hkm:k+1<l.length
   ·have hkm' : (k:Int)+1<(l.length:Int):=by omega
    obtain⟨b', off', e', hca'⟩:=(H1.out.low HW).at hkm
    cases e'
    generalize l.getD k 0=x at *
    generalize l.getD (k+1) 0=y at *
    have hq:(y*4294967296+x)/p≤y*4294967296+x:=Nat.div_le_self _ _
    have eq:((x:Int)+(y:Int)*4294967296)/(p:Int)=(((y*4294967296+x)/p:Nat):Int):=by simp [Int.add_comm]
    generalize (y*4294967296+x)/p=q at *
    clear HS
    go_wp2_with fail
    refine⟨?_,?_⟩
    ·refine⟨k+1,L.set k (q%4294967296),by go_num,by omega,by simp [hL],HB'.out _ (Nat.mod_lt _ (by decide)),HS', ?_,by go_grown⟩
     have:=HK.set k (q%4294967296)
     rwa [show ((q%4294967296:Nat):Int)=(q:Int)%4294967296 by omega] at this
    ·simp [intOf];omega
   ·have hkm' : ¬ (k:Int)+1<(l.length:Int):=by omega
    have e0:l.getD (k+1) 0=0:=by simp [List.getD_eq_getElem?_getD,List.getElem?_eq_none (Nat.le_of_not_lt hkm)]
    rw [e0] at HS'
    clear hor hy e0
    generalize l.getD k 0=x at *
    rw [Nat.zero_mul,Nat.zero_add] at HS'
    have hq:x/p≤x:=Nat.div_le_self _ _
    have eq:(x:Int)/(p:Int)=((x/p:Nat):Int):=by simp
    generalize x/p=q at *
    clear HS
    go_wp2_with fail
    refine⟨?_,?_⟩
    ·refine⟨k+1,L.set k (q%4294967296),by go_num,by omega,by simp [hL],HB'.out _ (Nat.mod_lt _ (by decide)),HS', ?_,by go_grown⟩
     have:=HK.set k (q%4294967296)
     rwa [show ((q%4294967296:Nat):Int)=(q:Int) by omega] at this
    ·simp [intOf];omega
  ·have hkn' : ¬ (k:Int)<(l.length:Int):=by omega
   have e:k=l.length:=by omega
   have HV:Hid (val L=val l/p):=by
    show _=_
    rw [← val_take_all (i:=k) (l:=L) (by omega),HS.out,e,Nat.mod_eq_of_lt]
    exact Nat.lt_of_le_of_lt (Nat.div_le_self _ _) (val_lt Hb)
   have hw:=HK.all HB (Nat.le_refl _) (by omega)
   rw [hL] at hw
   clear HS
   go_wp2_with fail
   go_call (bigcut_any _ _ _ hw) as _ _ ⟨rfl,rfl⟩
   go_wp2
   go_ret
   exact⟨_,rfl,⟨_,hw.cut,trim_canon _,by rw [val_trim,HV.out]⟩,HW⟩
theorem val_drop(l:List Nat)(k:Nat):val (l.drop k)=l.getD k 0+4294967296*val (l.drop (k+1)):=by
 rw [val_head (l.drop k),getD_drop,List.drop_drop];rfl
theorem val_drop_set(L:List Nat)(k q:Nat)(hk:k<L.length):val ((L.set k q).drop k)=q+4294967296*val (L.drop (k+1)):=by
 rw [val_drop,List.drop_set_of_lt (by omega)]
 simp [List.getD_eq_getElem?_getD,hk]
theorem small_step{l L:List Nat}{k d r:Nat}(hk:k<L.length)(hd:0<d)(h:val (l.drop (k+1))=d*val (L.drop (k+1))+r):val (l.drop k)=d*val ((L.set k ((r*4294967296+l.getD k 0)/d)).drop k)+(r*4294967296+l.getD k 0)%d:=by
 rw [val_drop_set _ _ _ hk,val_drop,h]
 generalize l.getD k 0=x
 generalize val (L.drop (k+1))=V
 have e:=Nat.div_add_mod (r*4294967296+x) d
 generalize (r*4294967296+x)/d=q at *
 generalize (r*4294967296+x)%d=r' at *
 rw [Nat.mul_add d,Nat.mul_add 4294967296,← Nat.mul_assoc d 4294967296,← Nat.mul_assoc 4294967296 d,Nat.mul_comm d 4294967296]
 generalize 4294967296*d*V=t
 omega
theorem small_lt{r d x:Nat}(hr:r<d)(hx:x<4294967296)(hd:d≤4294967296):(r*4294967296+x)/d<4294967296∧r*4294967296+x<18446744073709551616:=by
 refine⟨?_,by omega⟩
 rw [Nat.div_lt_iff_lt_mul (by omega)]
 omega
theorem small_end{n d V r:Nat}(h:n=d*V+r)(hr:r<d):V=n/d∧n%d=r:=by
 subst h
 rw [Nat.mul_add_div (by omega),Nat.mul_add_mod,Nat.mod_eq_of_lt hr,Nat.div_eq_of_lt hr]
 exact⟨by omega,rfl⟩
theorem refsmall_any(v:Value)(l:List Nat)(d:Nat)(w:World)(h:Words w v l)(hd:0<d)(hd2:d<4294967296)(hl:l.length≤549755813888):Calls Tryz.prog 321 #[v,.int .u64 d] w fun e w' => ∃ v', e=.returned (.tuple #[v', .int .u64 (val l%d:Nat)])∧Mag w' v' (val l/d)∧Below w.heap.size w w' := by
 have Hb:=h.bd
 obtain⟨a,c,rfl,hc1,hc2⟩:=h.len
 have H1:=Lib.hid h
 clear h
 have hmk:=make_words (l.length:Int) l.length (by omega) (by omega)
 go_enter Tryz.func321,Tryz.ntmps321
 go_wp2_with fail
 go_loopw [7,8] (fun v6 v7 wr=>∃ (k r:Nat) (L:List Nat),v6=.int .u64 r∧v7=.int .i64 ((k:Int)-1)∧k≤l.length∧r<d∧L.length=l.length∧Hid (Bd L)∧Hid (val (l.drop k)=d*val (L.drop k)+r)∧Blk wr w.heap.size L∧Below w.heap.size w wr) (fun _ v7 _=>(intOf v7+1).toNat)
 case atStart =>
  refine⟨l.length,0,List.replicate l.length 0,rfl,rfl,by omega,hd,by simp,Bd.replicate _,?_,Blk.alloc _ _,?_⟩
  ·show _=_;simp [val]
  ·go_grown
 case round =>
  obtain⟨k,r,L,rfl,rfl,hk,hr,hL,HB,HS,HK,HW⟩:=hrel
  cases k with
  | zero =>
   have hw:=HK.all HB (Nat.le_refl _) (by omega)
   have HV:Hid (val l=d*val L+r):=HS
   rw [hL] at hw
   clear HS
   go_wp2_with fail
   go_call (refcut_any _ _ _ hw) as _ _ ⟨rfl,rfl⟩
   go_wp2
   go_ret2
   obtain⟨e1,e2⟩:=small_end HV.out hr
   rw [e2]
   exact⟨_,rfl,⟨_,hw.cut,trim_canon _,by rw [val_trim,e1]⟩,HW⟩
  | succ k =>
   obtain⟨b,off,rfl,hca⟩:=(H1.out.low HW).at (show k<l.length by omega)
   have hx:=Hb.getD k
   have hf:=HK.free k
   have hcl:=HK.cell (i:=k) (by omega)
   have HB' := Lib.hid (fun x hx=>HB.set (x:=x) hx k)
   have HS' := Lib.hid (small_step (by omega) hd HS)
   obtain⟨hq,ht⟩:=small_lt hr hx (by omega)
   have hm:=Nat.mod_lt (r*4294967296+l.getD k 0) hd
   generalize L.getD k 0=z at *
   generalize l.getD k 0=x at *
   have e1:((r:Int)*4294967296+x)/(d:Int)=(((r*4294967296+x)/d:Nat):Int):=by simp
   have e2:((r:Int)*4294967296+x)%(d:Int)=(((r*4294967296+x)%d:Nat):Int):=by simp
   generalize (r*4294967296+x)/d=q at *
   generalize (r*4294967296+x)%d=r' at *
   clear HS
   go_wp2_with fail
   try rw [e2]
   refine⟨?_,?_⟩
   ·exact⟨k,r', L.set k q,rfl,rfl,by omega,hm,by simp [hL],HB'.out _ hq,HS', HK.set k q,by go_grown⟩
   ·simp [intOf]
theorem or_lo{r x:Nat}(hr:r<4294967296)(hx:x<4294967296):bits .or .u64 ((r:Int)*4294967296) (x:Int)=(r:Int)*4294967296+(x:Int) :=
 bits_join .u64 64 (by decide) wraps_u64 32 _ _ (by omega) (by omega) (by omega) (by omega) (by omega) (by omega)
theorem bigshort_any(v:Value)(l:List Nat)(d:Nat)(w:World)(h:Words w v l)(hd:0<d)(hd2:d<4294967296)(hl:l.length≤549755813888):Calls Tryz.prog 318 #[v,.int .u32 d] w fun e w' => ∃ v', e=.returned (.tuple #[v', .int .u32 (val l%d:Nat)])∧Mag w' v' (val l/d)∧Below w.heap.size w w' := by
 have Hb:=h.bd
 obtain⟨a,c,rfl,hc1,hc2⟩:=h.len
 have H1:=Lib.hid h
 clear h
 have hmk:=make_words (l.length:Int) l.length (by omega) (by omega)
 go_enter Tryz.func318,Tryz.ntmps318
 go_wp2_with fail
 go_loopw [7,8] (fun v6 v7 wr=>∃ (k r:Nat) (L:List Nat),v6=.int .u64 r∧v7=.int .i64 ((k:Int)-1)∧k≤l.length∧r<d∧L.length=l.length∧Hid (Bd L)∧Hid (val (l.drop k)=d*val (L.drop k)+r)∧Blk wr w.heap.size L∧Below w.heap.size w wr) (fun _ v7 _=>(intOf v7+1).toNat)
 case atStart =>
  refine⟨l.length,0,List.replicate l.length 0,rfl,rfl,by omega,hd,by simp,Bd.replicate _,?_,Blk.alloc _ _,?_⟩
  ·show _=_;simp [val]
  ·go_grown
 case round =>
  obtain⟨k,r,L,rfl,rfl,hk,hr,hL,HB,HS,HK,HW⟩:=hrel
  cases k with
  | zero =>
   have hw:=HK.all HB (Nat.le_refl _) (by omega)
   have HV:Hid (val l=d*val L+r):=HS
   rw [hL] at hw
   clear HS
   go_wp2_with fail
   go_call (bigcut_any _ _ _ hw) as _ _ ⟨rfl,rfl⟩
   go_wp2
   go_ret2
   obtain⟨e1,e2⟩:=small_end HV.out hr
   rw [e2]
   exact⟨_,rfl,⟨_,hw.cut,trim_canon _,by rw [val_trim,e1]⟩,HW⟩
  | succ k =>
   obtain⟨b,off,rfl,hca⟩:=(H1.out.low HW).at (show k<l.length by omega)
   have hx:=Hb.getD k
   have hf:=HK.free k
   have hcl:=HK.cell (i:=k) (by omega)
   have HB' := Lib.hid (fun x hx=>HB.set (x:=x) hx k)
   have HS' := Lib.hid (small_step (by omega) hd HS)
   obtain⟨hq,ht⟩:=small_lt hr hx (by omega)
   have hm:=Nat.mod_lt (r*4294967296+l.getD k 0) hd
   generalize L.getD k 0=z at *
   generalize l.getD k 0=x at *
   have hor:=or_lo (x:=x) (r:=r) (by omega) hx
   have e1:((r:Int)*4294967296+x)/(d:Int)=(((r*4294967296+x)/d:Nat):Int):=by simp
   have e2:((r:Int)*4294967296+x)%(d:Int)=(((r*4294967296+x)%d:Nat):Int):=by simp
   generalize (r*4294967296+x)/d=q at *
   generalize (r*4294967296+x)%d=r' at *
   clear HS
   go_wp2_with fail
   try rw [e2]
   refine⟨?_,?_⟩
   ·exact⟨k,r', L.set k q,rfl,rfl,by omega,hm,by simp [hL],HB'.out _ hq,HS', HK.set k q,by go_grown⟩
   ·simp [intOf]
def blen(x:Nat):Nat:=if x=0 then 0 else Nat.log2 x+1
theorem blen_half{x:Nat}(h:0<x):blen x=blen (x/2)+1:=by
 unfold blen
 rw [if_neg (by omega),Nat.log2_def]
 by_cases h2:2≤x
 ·rw [if_pos h2,if_neg (by omega)]
 ·rw [if_neg h2,if_pos (by omega)]
theorem blen_zero:blen 0=0:=rfl
theorem blen_lt(x:Nat):x<2^blen x:=by
 unfold blen
 by_cases h:x=0
 ·subst h;decide
 ·rw [if_neg h];exact Nat.lt_log2_self
theorem blen_ge{x:Nat}(h:0<x):2^(blen x-1)≤x:=by
 unfold blen
 rw [if_neg (by omega)]
 exact Nat.log2_self_le (by omega)
theorem blen_le{x n:Nat}(h:x<2^n):blen x≤n:=by
 rcases Nat.eq_zero_or_pos x with h0|h0
 ·subst h0;simp [blen]
 ·have:=blen_ge h0
  rcases Nat.lt_or_ge n (blen x) with h1|h1
  ·have:2^n≤2^(blen x-1):=Nat.pow_le_pow_right (by decide) (by omega)
   omega
  ·exact h1
theorem refbits_any(v:Value)(l:List Nat)(w:World){N:Nat}(h:Words w v l)(hN:l.length=N+1)(hl:N≤549755813888):Calls Tryz.prog 312 #[v] w fun e w' => e=.returned (.int .i64 (32*(N:Int)+blen (l.getD N 0)))∧w=w' := by
 have Hb:=h.bd
 obtain⟨a,c,rfl,hc1,hc2⟩:=h.len
 obtain⟨b,off,rfl,hca⟩:=h.at (show N<l.length by omega)
 have hx:=Hb.getD N
 rw [hN] at hc1 ⊢
 clear h hN Hb
 generalize l.getD N 0=x at *
 have hbl:blen x≤32:=blen_le (by omega)
 have hl1:((N:Int)+1 == 0)=false:=by rw [beq_eq_false_iff_ne];omega
 go_enter Tryz.func312,Tryz.ntmps312
 go_wp2_with fail
 go_loop [3,4] (fun v3 v4=>∃ n y:Nat,v3=.int .i64 n∧v4=.int .u32 y∧y<4294967296∧n+blen y=32*N+blen x) (fun _ v4=>(intOf v4).toNat)
 case atStart=>exact⟨32*N,x,by go_num,rfl,hx,rfl⟩
 case round =>
  obtain⟨n,y,rfl,rfl,hy,hs⟩:=hrel
  by_cases hy0:0<y
  ·rw [blen_half hy0] at hs
   go_wp2_with fail
   exact⟨⟨n+1,y/2,by go_num,by go_num,by omega,by omega⟩,by simp [intOf];omega⟩
  ·have e:y=0:=by omega
   subst e
   rw [blen_zero] at hs
   have hs' : (n:Int)=32*N+blen x:=by omega
   go_wp2_with fail
   go_ret
   exact⟨rfl,rfl⟩
theorem guess_ge{H V top v1 Q:Nat}(h1:H<(top+1)*Q)(h2:v1*Q≤V)(hv:0<v1)(hQ:0<Q):H/V≤top/v1:=by
 rw [Nat.le_div_iff_mul_le hv]
 have a:=Nat.div_mul_le_self H V
 have b:H/V*(v1*Q)≤H/V*V:=Nat.mul_le_mul_left _ h2
 have c:H/V*v1*Q<(top+1)*Q:=by rw [Nat.mul_assoc];omega
 have d:=Nat.lt_of_mul_lt_mul_right c
 omega
theorem guess_le{H V u' v' Q q:Nat}(h1:u'*Q≤H)(h2:V<(v'+1)*Q)(h3:q*v'≤u')(h4:q*Q≤V)(hV:0<V):q≤H/V+1:=by
 rcases Nat.eq_zero_or_pos q with h0|h0
 ·rw [h0];exact Nat.zero_le _
 have a:q*V<q*((v'+1)*Q):=Nat.mul_lt_mul_of_pos_left h2 h0
 have b:q*((v'+1)*Q)=q*v'*Q+q*Q:=by rw [Nat.add_mul,Nat.one_mul,Nat.mul_add,Nat.mul_assoc]
 have c:q*v'*Q≤u'*Q:=Nat.mul_le_mul_right _ h3
 have d:q*V<(H/V+2)*V:=by
  have e:=Nat.lt_div_mul_add (a:=H) hV
  rw [Nat.add_mul,Nat.mul_comm 2]
  omega
 have:=Nat.lt_of_mul_lt_mul_right d
 omega
theorem subm_step{L v:List Nat}{i j g cy bw bw' d A:Nat}(hj:j+i<L.length)(h:val L+4294967296^j*(g*val (v.take i))=A+4294967296^(j+i)*(cy+bw))(hd:d+(cy+g*v.getD i 0)%4294967296+bw=L.getD (j+i) 0+4294967296*bw'):val (L.set (j+i) d)+4294967296^j*(g*val (v.take (i+1)))=A+4294967296^(j+(i+1))*((cy+g*v.getD i 0)/4294967296+bw'):=by
 have e:=val_set L (j+i) d hj
 have e2:=Nat.mod_add_div (cy+g*v.getD i 0) 4294967296
 rw [val_take_succ,← Nat.add_assoc j,Nat.pow_succ,Nat.mul_add g,Nat.mul_add,show 4294967296^j*(g*(4294967296^i*v.getD i 0))=4294967296^(j+i)*(g*v.getD i 0) by rw [Nat.pow_add];ac_rfl]
 generalize g*v.getD i 0=p at *
 generalize L.getD (j+i) 0=u at *
 generalize 4294967296^j*(g*val (v.take i))=X at *
 generalize (cy+p)%4294967296=m at *
 generalize (cy+p)/4294967296=q at *
 have e3:4294967296^(j+i)*(d+m+bw)=4294967296^(j+i)*(u+4294967296*bw'):=by rw [hd]
 have e4:4294967296^(j+i)*(m+4294967296*q)=4294967296^(j+i)*(cy+p):=by rw [e2]
 generalize 4294967296^(j+i)=B at *
 simp only [Nat.mul_add,Nat.mul_assoc] at *
 omega
theorem addm_step{L v:List Nat}{i j cy d cy' A:Nat}(hj:j+i<L.length)(h:val L+4294967296^(j+i)*cy=A+4294967296^j*val (v.take i))(hd:d+4294967296*cy'=cy+L.getD (j+i) 0+v.getD i 0):val (L.set (j+i) d)+4294967296^(j+(i+1))*cy'=A+4294967296^j*val (v.take (i+1)):=by
 have e:=val_set L (j+i) d hj
 rw [val_take_succ,← Nat.add_assoc j,Nat.pow_succ,Nat.mul_add,show 4294967296^j*(4294967296^i*v.getD i 0)=4294967296^(j+i)*v.getD i 0 by rw [Nat.pow_add];ac_rfl]
 generalize v.getD i 0=p at *
 generalize L.getD (j+i) 0=u at *
 generalize 4294967296^j*val (v.take i)=X at *
 have e3:4294967296^(j+i)*(d+4294967296*cy')=4294967296^(j+i)*(cy+u+p):=by rw [hd]
 generalize 4294967296^(j+i)=B at *
 simp only [Nat.mul_add,Nat.mul_assoc] at *
 omega
theorem val_low{L:List Nat}{k:Nat}(hb:Bd L)(hz:∀ i,k≤i→L.getD i 0=0):val L<4294967296^k:=by
 have:val (L.drop k)=0:=by
  have h:∀ (M:List Nat),(∀ i,M.getD i 0=0)→val M=0:=by
   intro M
   induction M with
   | nil=>intro _;rfl
   | cons x M ih =>
    intro h
    have h0:=h 0
    have:=ih (fun i=>h (i+1))
    simp only [List.getD_cons_zero] at h0
    simp [val,h0,this]
  exact h _ fun i=>by rw [getD_drop];exact hz _ (by omega)
 rcases Nat.lt_or_ge L.length k with hk|hk
 ·exact Nat.lt_of_lt_of_le (val_lt hb) (Nat.pow_le_pow_right (by decide) (by omega))
 ·have h1:=val_lt (hb.take k)
  rw [List.length_take,Nat.min_eq_left hk] at h1
  rw [val_split L k hk,this]
  omega
theorem low_digits{L:List Nat}{k:Nat}(hb:Bd L)(h:val L<4294967296^k)(i:Nat)(hi:k≤i):L.getD i 0=0:=by
 have e:=val_div hb i
 rw [Nat.div_eq_of_lt (Nat.lt_of_lt_of_le h (Nat.pow_le_pow_right (by decide) hi)),val_drop] at e
 omega
structure Div (A V:Nat) (k:Nat) (u q:List Nat):Prop where
 eq:A=V*(4294967296^k*val (q.drop k))+val u
 lt:val u<V*4294967296^k
theorem Div.digit{A V k:Nat}{u q:List Nat}(h:Div A V (k+1) u q):val u/4294967296^k/V<4294967296:=by
 have h2:=h.lt
 rw [Nat.div_div_eq_div_mul,Nat.div_lt_iff_lt_mul (by
  rcases Nat.eq_zero_or_pos V with h0|h0
  ·subst h0;simp at h2
  ·exact Nat.mul_pos (Nat.pow_pos (by decide)) h0)]
 rw [Nat.pow_succ] at h2
 have:V*(4294967296^k*4294967296)=4294967296*(4294967296^k*V):=by ac_rfl
 omega
theorem Div.next{A V k:Nat}{u q u': List Nat}(h:Div A V (k+1) u q)(hk:k<q.length)(hu:val u'+4294967296^k*(val u/4294967296^k/V*V)=val u):Div A V k u' (q.set k (val u/4294967296^k/V)):=by
 have hV:0<V:=by
  rcases Nat.eq_zero_or_pos V with h0|h0
  ·subst h0;have:=h.lt;simp at this
  ·exact h0
 have e:=h.eq
 generalize hg:val u/4294967296^k/V=g at *
 constructor
 ·rw [val_drop_set _ _ _ hk,Nat.mul_add,Nat.mul_add]
  rw [Nat.pow_succ,Nat.mul_assoc] at e
  have:V*(4294967296^k*g)=4294967296^k*(g*V):=by ac_rfl
  omega
 ·have h1:=Nat.lt_div_mul_add (a:=val u/4294967296^k) hV
  rw [hg] at h1
  have h2:=Nat.lt_div_mul_add (a:=val u) (b:=4294967296^k) (Nat.pow_pos (by decide))
  have h3:val u/4294967296^k+1≤g*V+V:=h1
  have h4:(val u/4294967296^k+1)*4294967296^k≤(g*V+V)*4294967296^k:=Nat.mul_le_mul_right _ h3
  rw [Nat.add_mul,Nat.add_mul,Nat.one_mul,Nat.mul_comm (g*V)] at h4
  omega
theorem Div.start{A V N n:Nat}{u q:List Nat}(h:val u=A)(hq:val q=0)(hl:A<V*4294967296^q.length):Div A V q.length u q:=by
 constructor
 ·rw [List.drop_length];simp [val,h]
 ·rw [h];exact hl
theorem Div.done{a b p:Nat}{u q:List Nat}(hp:0<p)(h:Div (a*p) (b*p) 0 u q):val q=a/b∧val u/p=a%b:=by
 have h1:=h.eq
 have h2:=h.lt
 simp only [Nat.pow_zero,Nat.one_mul,Nat.mul_one,List.drop_zero] at h1 h2
 have e1:(a*p)/(b*p)=val q:=by
  rw [h1,Nat.mul_add_div (by omega),Nat.div_eq_of_lt h2];rfl
 have e2:(a*p)%(b*p)=val u:=by rw [h1,Nat.mul_add_mod,Nat.mod_eq_of_lt h2]
 rw [Nat.mul_div_mul_right _ _ hp] at e1
 rw [Nat.mul_mod_mul_right] at e2
 exact⟨e1.symm,by rw [← e2,Nat.mul_div_cancel _ hp]⟩
end Go.Proofs.YtcdbmjnipaochaaGreat
