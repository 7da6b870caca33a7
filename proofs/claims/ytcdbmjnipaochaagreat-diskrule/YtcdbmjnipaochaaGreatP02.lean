import Derived.Test.YtcdbmjnipaochaaGreatP01
import Derived.StillTailTactics
import Derived.Deep.DeepCutAuto
import Derived.IntWalk
import Derived.ShutString
import Derived.Laws.IdiomStrings
import Derived.BigQuiet
import Derived.Laws.AppendOwn
set_option linter.unusedVariables false
set_option linter.unusedSimpArgs false
set_option maxHeartbeats 8000000
set_option maxRecDepth 100000
namespace Go.Proofs.YtcdbmjnipaochaaGreat
open Go.RowKit Rgn
theorem norm_end{t0 by_ t:Nat}(ht:t=t0*2^by_)(h1:2147483648≤t)(h2:t<4294967296):by_+blen t0=32:=by
 have h0:0<t0:=by
  rcases Nat.eq_zero_or_pos t0 with h|h
  ·subst h;simp at ht;omega
  ·exact h
 have a:=blen_lt t0
 have b:=blen_ge h0
 have c:2^(blen t0-1)*2^by_≤t:=by rw [ht];exact Nat.mul_le_mul_right _ b
 have d:t<2^blen t0*2^by_:=by rw [ht];exact Nat.mul_lt_mul_of_pos_right a (Nat.pow_pos (by decide))
 rw [← Nat.pow_add] at c d
 have e:blen t0-1+by_<32:=(Nat.pow_lt_pow_iff_right (a:=2) (by decide)).1 (Nat.lt_of_le_of_lt c h2)
 have f:31<blen t0+by_:=(Nat.pow_lt_pow_iff_right (a:=2) (by decide)).1 (Nat.lt_of_le_of_lt h1 d)
 omega
theorem norm_top{m V:List Nat}{M s:Nat}(hm:m.length=M+1)(bV:Bd V)(hl:V.length=M+1)(cm:Canon m)(hs:s+blen (m.getD M 0)=32)(hV:val V=val m*2^s):2147483648≤V.getD M 0:=by
 have h0:0<m.getD M 0:=by
  rcases Nat.eq_zero_or_pos (m.getD M 0) with h0|h0
  ·exfalso
   apply cm
   have:M<m.length:=by omega
   rw [List.getLast?_eq_getElem?,hm,Nat.add_sub_cancel,List.getElem?_eq_getElem this]
   rw [List.getD_eq_getElem?_getD,List.getElem?_eq_getElem this,Option.getD_some] at h0
   rw [h0]
  ·exact h0
 have h1:=blen_ge h0
 have e1:=val_take_succ m M
 rw [val_take_all (by omega)] at e1
 have e2:=val_take_succ V M
 rw [val_take_all (by omega)] at e2
 have b2:=val_lt (bV.take M)
 have b3:4294967296^(V.take M).length≤4294967296^M:=Nat.pow_le_pow_right (by decide) (by rw [List.length_take];omega)
 have a:4294967296^M*m.getD M 0*2^s≤val V:=by rw [hV];exact Nat.mul_le_mul_right _ (by omega)
 have c:2147483648≤m.getD M 0*2^s:=by
  have:2^(blen (m.getD M 0)-1)*2^s≤m.getD M 0*2^s:=Nat.mul_le_mul_right _ h1
  rw [← Nat.pow_add,show blen (m.getD M 0)-1+s=31 by unfold blen at *;rw [if_neg (by omega)] at *;omega] at this
  exact this
 rw [Nat.mul_assoc] at a
 have d:4294967296^M*2147483648≤4294967296^M*(m.getD M 0*2^s):=Nat.mul_le_mul_left _ c
 have e:4294967296^M*2147483648<4294967296^M*(V.getD M 0+1):=by rw [Nat.mul_add];omega
 have:=Nat.lt_of_mul_lt_mul_left e
 omega
structure Guess (x y z v1 v0 g q r:Nat):Prop where
 top:q*v1+r=x*4294967296+y
 rlt:r<4294967296
 ge:g≤q
 le:q≤4294967297
theorem Guess.start{x y z v1 v0 g:Nat}(hv:2147483648≤v1)(hv2:v1<4294967296)(hx:x≤v1)(hy:y<4294967296)(hg:g≤(x*4294967296+y)/v1):Guess x y z v1 v0 g ((x*4294967296+y)/v1) ((x*4294967296+y)%v1):=by
 refine⟨by rw [Nat.mul_comm];exact Nat.div_add_mod _ _,Nat.lt_trans (Nat.mod_lt _ (by omega)) hv2,hg,?_⟩
 have:(x*4294967296+y)/v1<4294967298:=by
  rw [Nat.div_lt_iff_lt_mul (by omega)]
  have:x*4294967296≤v1*4294967296:=Nat.mul_le_mul_right _ hx
  omega
 omega
structure Three (H V Q x y z v1 v0:Nat):Prop where
 lo:((x*4294967296+y)*4294967296+z)*Q≤H
 hi:H<((x*4294967296+y)*4294967296+z+1)*Q
 vlo:(v1*4294967296+v0)*Q≤V
 vhi:V<(v1*4294967296+v0+1)*Q
 q0:0<Q
 v1:2147483648≤v1
 v0:v0<4294967296
theorem Guess.exit{H V Q x y z v1 v0 g q r:Nat}(h:Guess x y z v1 v0 g q r)(t:Three H V Q x y z v1 v0)(hx:q*v0≤r*4294967296+z):q≤H/V+1:=by
 refine guess_le (u' := (x*4294967296+y)*4294967296+z) (v' := v1*4294967296+v0) (Q:=Q) t.lo t.vhi ?_ ?_ ?_
 ·rw [Nat.mul_add,← Nat.mul_assoc,← h.top,Nat.add_mul];omega
 ·refine Nat.le_trans (Nat.mul_le_mul_right _ ?_) t.vlo
  have:=h.le;have:=t.v1;omega
 ·refine Nat.lt_of_lt_of_le ?_ t.vlo
  exact Nat.mul_pos (by have:=t.v1;omega) t.q0
theorem Guess.down{H V Q x y z v1 v0 q r:Nat}(h:Guess x y z v1 v0 (H/V) q r)(t:Three H V Q x y z v1 v0)(hg:H/V<4294967296)(hx:4294967296≤q∨r*4294967296+z<q*v0):H/V≤q-1∧1≤q:=by
 rcases hx with hx|hx
 ·omega
 ·have h1:¬ q≤H/V:=by
   intro hle
   have a:q*(v1*4294967296+v0)≤H/V*(v1*4294967296+v0):=Nat.mul_le_mul_right _ hle
   have b:H/V*(v1*4294967296+v0)*Q≤H:=by
    rw [Nat.mul_assoc]
    exact Nat.le_trans (Nat.mul_le_mul_left _ t.vlo) (Nat.div_mul_le_self _ _)
   have c:q*(v1*4294967296+v0)*Q<((x*4294967296+y)*4294967296+z+1)*Q :=
    Nat.lt_of_le_of_lt (Nat.le_trans (Nat.mul_le_mul_right _ a) b) t.hi
   have d:=Nat.lt_of_mul_lt_mul_right c
   rw [Nat.mul_add,← Nat.mul_assoc,← h.top,Nat.add_mul] at d
   omega
  have h3:H/V<q:=Nat.lt_of_not_le h1
  generalize H/V=g at *
  omega
theorem Guess.next{x y z v1 v0 g q r:Nat}(h:Guess x y z v1 v0 g q r)(h1:g≤q-1)(h2:1≤q)(hr:r+v1<4294967296):Guess x y z v1 v0 g (q-1) (r+v1):=by
 refine⟨?_,hr,h1,by have:=h.le;omega⟩
 obtain⟨k,rfl⟩:∃ k,q=k+1:=⟨q-1,by omega⟩
 rw [← h.top,Nat.add_sub_cancel,Nat.add_mul];omega
theorem Guess.brk{H V Q x y z v1 v0 q r:Nat}(h:Guess x y z v1 v0 (H/V) q r)(t:Three H V Q x y z v1 v0)(h2:1≤q)(hr:4294967296≤r+v1):q-1≤H/V+1:=by
 have e:(q-1)*v1+(r+v1)=x*4294967296+y:=by
  obtain⟨k,rfl⟩:∃ k,q=k+1:=⟨q-1,by omega⟩
  rw [← h.top,Nat.add_sub_cancel,Nat.add_mul];omega
 refine guess_le (u' := (x*4294967296+y)*4294967296+z) (v' := v1*4294967296+v0) (Q:=Q) t.lo t.vhi ?_ ?_ ?_
 ·rw [Nat.mul_add,← Nat.mul_assoc,← e,Nat.add_mul]
  have a:(q-1)*v0≤4294967296*4294967295:=Nat.mul_le_mul (by have:=h.le;omega) (by have:=t.v0;omega)
  omega
 ·refine Nat.le_trans (Nat.mul_le_mul_right _ ?_) t.vlo
  have:=h.le;have:=t.v1;omega
 ·refine Nat.lt_of_lt_of_le ?_ t.vlo
  exact Nat.mul_pos (by have:=t.v1;omega) t.q0
theorem Three.of{A:Nat}{V U q:List Nat}{j M:Nat}(bU:Bd U)(bV:Bd V)(hV:V.length=M+1)(hM:1≤M)(h:Div A (val V) (j+1) U q)(h1:2147483648≤V.getD M 0):Three (val U/4294967296^j) (val V) (4294967296^(M-1)) (U.getD (j+(M+1)) 0) (U.getD (j+M) 0) (U.getD (j+(M-1)) 0) (V.getD M 0) (V.getD (M-1) 0)∧U.getD (j+(M+1)) 0≤V.getD M 0:=by
 have hvl:=val_lt bV
 rw [hV] at hvl
 have hH:=high_digits bU h hvl
 obtain⟨N,rfl⟩:∃ N,M=N+1:=⟨M-1,by omega⟩
 rw [Nat.add_sub_cancel]
 rw [← hH]
 have hd:val U/4294967296^j/val V<4294967296:=h.digit
 have hVp:=h.pos
 have e1:val ((U.drop j).take (N+1+1+1))=val ((U.drop j).take N)+4294967296^N*((U.getD (j+(N+1+1)) 0*4294967296+U.getD (j+(N+1)) 0)*4294967296+U.getD (j+N) 0):=by
  rw [val_take_succ,val_take_succ,val_take_succ,getD_drop,getD_drop,getD_drop,Nat.pow_succ,Nat.pow_succ]
  rw [Nat.pow_succ]
  generalize 4294967296^N=B
  simp only [Nat.mul_add,Nat.add_mul]
  rw [show ∀ x:Nat,B*(x*4294967296*4294967296)=B*4294967296*4294967296*x from fun x=>by ac_rfl,show ∀ x:Nat,B*(x*4294967296)=B*4294967296*x from fun x=>by ac_rfl]
  have e3:j+(N+1+1)=j+(N+2):=by omega
  rw [e3];omega
 have e2:val V=val (V.take N)+4294967296^N*(V.getD (N+1) 0*4294967296+V.getD N 0):=by
  rw [← val_take_all (l:=V) (i:=N+1+1) (by omega),val_take_succ,val_take_succ,Nat.pow_succ]
  generalize 4294967296^N=B
  have a:∀ x:Nat,B*(x*4294967296)=B*4294967296*x:=fun x=>by ac_rfl
  rw [Nat.mul_add,a];omega
 have l1:=val_lt ((bU.drop j).take N)
 have l2:4294967296^((U.drop j).take N).length≤4294967296^N:=Nat.pow_le_pow_right (by decide) (by rw [List.length_take];omega)
 have l3:=val_lt (bV.take N)
 have l4:4294967296^(V.take N).length≤4294967296^N:=Nat.pow_le_pow_right (by decide) (by rw [List.length_take];omega)
 have hp:0<4294967296^N:=Nat.pow_pos (by decide)
 have hb0:=bV.getD N
 have hb1:=bU.getD (j+(N+1))
 have hb2:=bU.getD (j+N)
 rw [← hH,Nat.div_lt_iff_lt_mul hVp] at hd
 rw [e1,e2] at hd ⊢
 clear e1 e2 hH hvl h
 generalize U.getD (j+(N+1+1)) 0=x at *
 generalize U.getD (j+(N+1)) 0=y at *
 generalize U.getD (j+N) 0=z at *
 generalize V.getD (N+1) 0=v1 at *
 generalize V.getD N 0=v0 at *
 generalize 4294967296^N=B at *
 generalize val ((U.drop j).take N)=lo1 at *
 generalize val (V.take N)=lo2 at *
 refine⟨⟨?_,?_,?_,?_,hp,h1,hb0⟩,?_⟩
 ·rw [Nat.mul_comm];omega
 ·rw [Nat.add_mul _ 1,Nat.one_mul,Nat.mul_comm _ B];omega
 ·rw [Nat.mul_comm];omega
 ·rw [Nat.add_mul _ 1,Nat.one_mul,Nat.mul_comm _ B];omega
 ·rcases Nat.lt_or_ge v1 x with hlt|hge
  ·exfalso
   have c:B*(4294967296*(v1*4294967296+v0+1))≤B*((x*4294967296+y)*4294967296+z):=Nat.mul_le_mul_left _ (by omega)
   have d:4294967296*(lo2+B*(v1*4294967296+v0))<B*(4294967296*(v1*4294967296+v0+1)):=by
    rw [show B*(4294967296*(v1*4294967296+v0+1))=4294967296*(B*(v1*4294967296+v0+1)) by ac_rfl,Nat.mul_add B _ 1];omega
   omega
  ·exact hge
theorem bigcut_q(v:Value)(l:List Nat)(w:World)(h:Words w v l):Calls Tryz.prog 310 #[v] w fun e w' => e=.returned (cutV l v)∧w'=w :=
 (bigcut_any v l w h).mono fun _ _ ⟨h1,h2⟩=>⟨h1,h2.symm⟩
theorem bor_lo{r x:Nat}(hr:r<4294967296)(hx:x<4294967296):bits .or .u64 ((r:Int)*4294967296) (x:Int)=(r:Int)*4294967296+(x:Int):=or_lo hr hx
theorem bigdivide_long(v v': Value)(l m:List Nat)(w:World){M:Nat}(h:Words w v l)(h': Words w v' m)(cl:Canon l)(cm:Canon m)(hm:m.length=M+1)(hM:1≤M)(hle:val m≤val l)(hl:l.length≤137438953472):Calls Tryz.prog 300 #[v,v'] w fun e w' => ∃ q r,e=.returned (.tuple #[q,r])∧Mag w' q (val l/val m)∧Mag w' r (val l%val m)∧Below w.heap.size w w' := by
 have Hb:=h.bd
 have Hb' := h'.bd
 have hml:=canon_len_le Hb' Hb cm hle
 obtain⟨a,c,rfl,hc1,hc2⟩:=h.len
 obtain⟨a', c', rfl,hc1', hc2'⟩:=h'.len
 obtain⟨bm,om,epm,hcm⟩:=h'.at (k:=M) (by omega)
 subst epm
 have hcmp:¬ cmp3 (val l) (val m)<0:=by unfold cmp3;rw [if_neg (by omega)];split<;>omega
 have hm1:(((M:Int)+1) == 1)=false:=by rw [beq_eq_false_iff_ne];omega
 have hu:=bigunder_any _ _ l m w h h' cl cm
 have hbM:=Hb'.getD M
 have H1:=Lib.hid h;have H2:=Lib.hid h'
 have HN:∀ s V,Hid (s+blen (m.getD M 0)=32→Bd V→Canon V→val V=val m*2^s→V.length=M+1∧2147483648≤V.getD M 0):=fun s V hs b1 b2 b3=>⟨norm_len hm Hb' cm b1 b2 hs b3,norm_top hm b1 (norm_len hm Hb' cm b1 b2 hs b3) cm hs b3⟩
 obtain⟨K,hK⟩:∃ K,K+(M+1)=l.length+1:=⟨l.length+1-(M+1),by omega⟩
 have HR:∀ s,Hid (val l*2^s<val m*2^s*4294967296^K):=fun s=>div_room (N:=0) (n:=M+1) Hb cm hm (by omega) (by omega)
 have hml' : M+1≤l.length:=by omega
 have ht0:0<m.getD M 0:=by
  rcases Nat.eq_zero_or_pos (m.getD M 0) with h0|h0
  ·exfalso
   apply cm
   have:M<m.length:=by omega
   rw [List.getLast?_eq_getElem?,hm,Nat.add_sub_cancel,List.getElem?_eq_getElem this]
   rw [List.getD_eq_getElem?_getD,List.getElem?_eq_getElem this,Option.getD_some] at h0
   rw [h0]
  ·exact h0
 rw [hm] at hc1' hu
 have hup0:=fun (s:Nat) (hs:s<32) (u:World) (hb:Below w.heap.size w u)=>bigleft_any _ _ s u ((H2.out.low hb)) hs (by omega)
 rw [hm] at hup0 ⊢
 have hup:=fun s hs u hb=>Lib.hid (hup0 s hs u hb)
 have hmk:=make_words ((l.length:Int)+1) (l.length+1) (by omega) (by omega)
 generalize m.getD M 0=t0 at *
 clear h h' cl cm hle hup0
 go_enter Tryz.func300,Tryz.ntmps300
 go_wp2_with fail
 go_call hu as _ _ ⟨rfl,n,rfl⟩
 have hcmn:(w.drewN n).cell? ⟨bm,om+M,none⟩=some (.int .u32 (t0:Int)):=hcm
 go_wp2_with fail
 go_loop [8,9] (fun v8 v9=>∃ s t:Nat,v8=.int .i64 s∧v9=.int .u32 t∧s<32∧0<t∧t<4294967296∧Hid (t=t0*2^s)) (fun _ v9=>4294967296-(intOf v9).toNat)
 case atStart=>exact⟨0,t0,rfl,rfl,by omega,by omega,by omega,show _=_ by simp⟩
 case round =>
 obtain⟨s,t,rfl,rfl,hs32,htp,htl,HT⟩:=hrel
 by_cases hsm:t<2147483648
 ·have HT' : Hid (2*t=t0*2^(s+1)):=show _=_ by
   have h:=HT.out
   rw [Nat.pow_succ,← Nat.mul_assoc,← h];omega
  have hs31:s+1<32:=by
   rcases Nat.lt_or_ge (s+1) 32 with h|h
   ·exact h
   ·exfalso
    have e:s=31:=by omega
    subst e
    have h1:t=t0*2^31:=HT.out
    have h2:2^31≤t0*2^31:=Nat.le_mul_of_pos_left _ ht0
    rw [← h1] at h2
    omega
  clear HT
  go_wp2_with fail
  refine⟨?_,?_⟩
  ·exact⟨s+1,2*t,by go_num,by go_num,hs31,by omega,by omega,HT'⟩
  ·simp [intOf];omega
 ·have hs:=norm_end HT.out (by omega) htl
  clear HT
  have hWn:=below_drewN (Below.refl w.heap.size w) n
  go_wp2_with fail
  go_call (hup s hs32 (w.drewN n) hWn).out as _ w1 ⟨vV,rfl,⟨V,hV1,hV2,hV3⟩,hW1⟩
  have hWa:Below w.heap.size w w1:=hWn.trans hW1
  obtain⟨hVl,hV31⟩:=(HN s V).out hs hV1.bd hV2 hV3
  obtain⟨pV,cV,rfl,hcV1,hcV2⟩:=hV1.len
  have HbV:=Lib.hid hV1.bd
  have HcV:=Lib.hid hV2
  have HvV:=Lib.hid hV3
  have HV:=Lib.hid hV1
  rw [hVl] at hcV1
  have eV:V.length=M+1:=hVl
  have HeV:=Lib.hid eV
  clear hV1 hV2 hV3 hVl hW1 HN hup hu
  rw [eV]
  clear eV
  have hK1:=Blk.alloc w1 (List.replicate (l.length+1) 0)
  have hWb:Below w.heap.size w (w1.alloc (.cells (wcells (List.replicate (l.length+1) 0)) 315)):=hWa.alloc hWa.size _
  have hb1:w.heap.size≤w1.heap.size:=hWa.size
  have HU0:Hid (∀ L0,val L0=val l*2^s→Bd L0→Canon L0→L0.length≤l.length+1):=show _ from by
   intro L0 h1 h2 h3
   refine (canon_len h2 h3).2 ?_
   rw [h1,Nat.pow_succ]
   have h4:=val_lt Hb
   have h5:2^s≤2^32:=Nat.pow_le_pow_right (by decide) (by omega)
   have h6:0<2^s:=Nat.pow_pos (by decide)
   calc val l*2^s<4294967296^l.length*2^s:=Nat.mul_lt_mul_of_pos_right h4 h6
    _≤_:=Nat.mul_le_mul_left _ h5
  go_wp2_with fail
  go_call (bigleft_any _ _ s _ ((H1.out.low hWa).alloc _) (by omega) (by omega)) as _ w3 ⟨vL,rfl,⟨L0,hL1,hL2,hL3⟩,hW3⟩
  have hlen0:=HU0.out L0 hL3 hL1.bd hL2
  have hK3:=hK1.low hW3
  have HL:=Lib.hid hL1
  have HK3:=Lib.hid hK3
  have hU0:Hid (val (L0++(List.replicate (l.length+1) 0).drop L0.length)=val l*2^s):=show _=_ by
   rw [val_append,hL3,List.drop_replicate,val_replicate];omega
  have bU0:=Lib.hid (hL1.bd.append ((Bd.replicate (l.length+1)).drop L0.length))
  have lU0:(L0++(List.replicate (l.length+1) 0).drop L0.length).length=l.length+1:=by simp;omega
  obtain⟨U0,hU0'⟩:∃ U,L0++(List.replicate (l.length+1) 0).drop L0.length=U:=⟨_,rfl⟩
  rw [hU0'] at hU0 bU0 lU0
  have HU0:=Lib.hid hU0'
  clear hU0'
  have hW13:Below w1.heap.size w1 w3:=((Below.alloc (Below.refl _ _) (Nat.le_refl _) _)).trans (hW3.mono (by simp))
  have hb13:=lt_of hK3
  clear hL1 hL2 hL3 hK1 hK3 hW3 hWb
  go_wp2_with (with_reducible refine wpList_copyw (w:=w3) ?_ (.tmp 59) (.tmp 62) ?_ w1.heap.size (List.replicate (l.length+1) 0) L0 (l.length+1) vL HK3.out HL.out ?_ ?_ ?_ ?_ HU0.out ?_)
  ·rfl
  ·rfl
  ·simp
  ·simp;omega
  ·rfl
  ·rfl
  intro w4 hK4 hO4
  have hW4:Below w1.heap.size w1 w4:=hW13.trans (only_below hO4 (Nat.le_refl _) (by omega))
  have hb14:w1.heap.size<w4.heap.size:=lt_of hK4
  have HK4:=Lib.hid hK4
  clear hK4 hO4 hW13 hb13 HL HK3 hlen0
  have hmk2:=make_words (((l.length:Int)+1)-((M:Int)+1)) K (by omega) (by omega)
  go_wp2_with fail
  have hK5:Blk (w4.alloc (.cells (wcells (List.replicate K 0)) 315)) w4.heap.size (List.replicate K 0):=Blk.alloc _ _
  have HK4' := Lib.hid (HK4.out.low (Below.alloc (Below.refl _ _) (Nat.le_refl _) (.cells (wcells (List.replicate K 0)) 315)))
  have HW5:Below w1.heap.size w1 (w4.alloc (.cells (wcells (List.replicate K 0)) 315)):=hW4.alloc (by omega) _
  have HK5:=Lib.hid hK5
  clear hK5 HK4
  have HD:Hid (Div (val l*2^s) (val V) K U0 (List.replicate K 0)):=by
   have:=Div.start (q:=List.replicate K 0) (u:=U0) (V:=val V) (N:=0) (n:=0) hU0.out (val_replicate _) (by rw [List.length_replicate,HvV.out];exact (HR s).out)
   rwa [List.length_replicate] at this
  clear HR hU0
  obtain⟨b1,hb1'⟩:∃ b,w1.heap.size=b:=⟨_,rfl⟩
  obtain⟨b2,hb2'⟩:∃ b,w4.heap.size=b:=⟨_,rfl⟩
  rw [hb1'] at HK4' HW5 hW4 hb14 hb1 ⊢
  rw [hb2'] at HK5 hb14 ⊢
  generalize w4.alloc (.cells (wcells (List.replicate K 0)) 315)=w5 at *
  have hbU:=Lib.hid (And.intro hb1 hb1')
  have hne12:b1≠b2:=by omega
  have hKz:(l.length:Int)+1-(M+1)-1=(K:Int)-1:=by omega
  try rw [hKz]
  go_loopw [13] (fun v13 wr=>∃ (k:Nat) (U Q:List Nat),v13=.int .i64 ((k:Int)-1)∧k≤K∧U.length=l.length+1∧Q.length=K∧Hid (Bd U)∧Hid (Bd Q)∧Hid (Div (val l*2^s) (val V) k U Q)∧Hid (Blk wr b1 U)∧Hid (Blk wr b2 Q)∧Hid (Below b1 w1 wr)) (fun v13 _=>(intOf v13+1).toNat)
  case atStart=>exact⟨K,U0,List.replicate K 0,rfl,Nat.le_refl _,lU0,by simp,bU0,Bd.replicate _,HD,HK4', HK5,HW5⟩
  case round =>
  obtain⟨k,U,Q,rfl,hk,hUl,hQl,HBU,HBQ,HD,HKU,HKQ,HW⟩:=hrel
  cases k with
  | zero =>
   have hwQ:=HKQ.out.all HBQ.out (cap:=K) (by omega) (by omega)
   have hwU:=HKU.out.all HBU.out (cap:=l.length+1) (by omega) (by omega)
   rw [hQl] at hwQ
   rw [hUl] at hwU
   have HE:Hid (val Q=val l/val m∧val U/2^s=val l%val m):=by
    have:=HD.out
    rw [HvV.out] at this
    exact Lib.hid (this.done (Nat.pow_pos (by decide)))
   have HWl:Hid (Below w.heap.size w wr):=Lib.hid (hWa.trans (HW.out.mono hbU.out.1))
   go_wp2_with fail
   go_still_tail 7,(by kernel_rfl)
   have hMl:M≤l.length:=by omega
   have hM0:(0:Int)≤(M:Int)+1:=by omega
   have hwQ1:Words wr.drew (.slice (some ⟨b2,0,none⟩) K K) Q:=hwQ
   have hwU1:Words wr.drew (.slice (some ⟨b1,0,none⟩) (M+1) (l.length+1)) (U.take (M+1)):=HKU.out.words HBU.out (k:=M+1) (cap:=l.length+1) (by omega) (by omega) (by omega)
   still_call (bigcut_q _ Q _ hwQ1)
   repeat still_step
   still_call (bigcut_q _ _ _ hwU1)
   repeat still_step
   refine wpStill_nil ?_
   have HUV:Hid (val (U.take (M+1))/2^s=val l%val m):=show _=_ by
    rw [val_take_low HBU.out,HE.out.2]
    have h1:=HD.out.lt
    have h2:=val_lt HbV.out
    rw [HeV.out] at h2
    rw [Nat.pow_zero,Nat.mul_one] at h1
    exact Nat.lt_trans h1 h2
   go_wp2_with fail
   go_call (bigright_any _ (trim (U.take (M+1))) s _ hwU1.cut (by omega) (by have:=trim_len (U.take (M+1));have:(U.take (M+1)).length≤M+1:=List.length_take_le _ _;omega)) as _ w9 ⟨vr,rfl,hr,hW9⟩
   go_wp2
   go_ret2
   rw [val_trim,HUV.out] at hr
   exact⟨_,_,rfl,⟨_,hwQ1.cut.low hW9,trim_canon _,by rw [val_trim,HE.out.1]⟩,hr,(HWl.out.trans (Below.drew (Below.refl _ _))).trans (hW9.mono (by have:=HWl.out.size;simp;omega))⟩
  | succ j =>
   have ej:(((j+1:Nat):Int)-1)=(j:Int):=by omega
   rw [ej]
   clear ej
   have hlenV:=HeV.out
   have hvV:=val_lt HbV.out
   rw [hlenV] at hvV
   obtain⟨h3,hxv⟩:=Three.of HBU.out HbV.out hlenV hM HD.out hV31
   have HG:=Lib.hid (guess_top (j:=j) HBU.out HbV.out HcV.out hlenV (by omega) HD.out)
   have HZ:=Lib.hid (high_zero (j:=j) (n:=M+1) HBU.out HD.out hvV)
   have HB1:=Lib.hid HD.out.digit
   have HVw:=Lib.hid (HV.out.low (hbU.out.2 ▸ HW.out))
   obtain⟨bV,oV,epV,hcV⟩:=HVw.out.at (k:=M) (by omega)
   subst epV
   obtain⟨_,_,epV,hcV0⟩:=HVw.out.at (k:=M-1) (by omega)
   cases epV
   have hbV1:bV≠b1:=by
    rcases HV.out.row with⟨e,_⟩|⟨b', off,cap,e,hr⟩
    ·cases e
    ·cases e
     obtain⟨cur,fr,hb⟩:=hr.blk
     have:=lt_of hb;have:=hbU.out.2;omega
   have hc1:=HKU.out.cell (i:=j+(M+1)) (by omega)
   have hc2:=HKU.out.cell (i:=j+M) (by omega)
   have hc3:=HKU.out.cell (i:=j+(M-1)) (by omega)
   have hx:=HBU.out.getD (j+(M+1));have hy:=HBU.out.getD (j+M);have hz:=HBU.out.getD (j+(M-1));have hv1:=HbV.out.getD M;have hv0:=HbV.out.getD (M-1)
   rw [show j+(M+1)-1=j+M by omega,show M+1-1=M by omega] at HG
   have HGt:=Lib.hid HG.out.1
   have hz0:=HG.out.2
   have H3:=Lib.hid h3
   clear HG hvV h3
   generalize U.getD (j+(M+1)) 0=x at *
   generalize U.getD (j+M) 0=y at *
   obtain⟨z,hz0'⟩:∃ z,U.getD (j+(M-1)) 0=z:=⟨_,rfl⟩
   obtain⟨v1,hv1'⟩:∃ z,V.getD M 0=z:=⟨_,rfl⟩
   obtain⟨v0,hv0'⟩:∃ z,V.getD (M-1) 0=z:=⟨_,rfl⟩
   rw [hz0'] at hz H3 hc3
   rw [hv1'] at hv1 hcV hxv hz0 HGt H3
   have hV31' : 2147483648≤v1:=by rw [← hv1'];exact hV31
   rw [hv0'] at hv0 hcV0 H3
   have hZ0:=Lib.hid hz0'
   have hV0:=Lib.hid (And.intro hv1' hv0')
   clear hz0' hv1' hv0'
   have HG0:=Lib.hid (Guess.start (z:=z) (v0:=v0) hV31' hv1 hxv hy HGt.out)
   have hd1:∀ n:Nat,(wr.drewN n).cell? ⟨b1,j+(M+1),none⟩=some (.int .u32 (x:Int)):=fun _=>hc1
   have hd2:∀ n:Nat,(wr.drewN n).cell? ⟨b1,j+M,none⟩=some (.int .u32 (y:Int)):=fun _=>hc2
   have hd2' : ∀ n:Nat,(wr.drewN n).cell? ⟨b1,j+(M+1)-1,none⟩=some (.int .u32 (y:Int)):=fun _=>hc2
   have hd4:∀ n:Nat,(wr.drewN n).cell? ⟨bV,oV+M,none⟩=some (.int .u32 (v1:Int)):=fun _=>hcV
   have hor:=bor_lo hx hy
   clear hc1 hc2
   go_wp2_with fail
   go_quiet (fail)
   have HKU0:=Lib.hid (HKU.out.drewN nq)
   have HKQ0:=Lib.hid (HKQ.out.drewN nq)
   have HW0:=Lib.hid (below_drewN HW.out nq)
   have hcVn:(wr.drewN nq).cell? ⟨bV,oV+M,none⟩=some (.int .u32 (v1:Int)):=hd4 nq
   have hcV0n:(wr.drewN nq).cell? ⟨bV,oV+(M-1),none⟩=some (.int .u32 (v0:Int)):=hcV0
   generalize wr.drewN nq=wr0 at *
   clear hd1 hd2 hd2' hd4 HKU HKQ HW HVw hcV hcV0
   have hd4:∀ n:Nat,(wr0.drewN n).cell? ⟨bV,oV+M,none⟩=some (.int .u32 (v1:Int)):=fun _=>hcVn
   have eq1:((x:Int)*4294967296+y)/(v1:Int)=(((x*4294967296+y)/v1:Nat):Int):=by simp
   have eq2:((x:Int)*4294967296+y)%(v1:Int)=(((x*4294967296+y)%v1:Nat):Int):=by simp
   have hv10:0<v1:=by omega
   go_wp2_with fail
   go_quiet (fail)
   go_wp2_with fail
   have HKU1:=Lib.hid (HKU0.out.drewN nq)
   have HKQ1:=Lib.hid (HKQ0.out.drewN nq)
   have HW1:=Lib.hid (below_drewN HW0.out nq)
   generalize wr0.drewN nq=wr1 at *
   clear hd4 hcVn hcV0n HKU0 HKQ0 HW0 hor eq1 eq2
   go_loopw [15,16] (fun v15 v16 wr=>∃ q r:Nat,v15=.int .u64 q∧v16=.int .u64 r∧Hid (Guess x y z v1 v0 (val U/4294967296^j/val V) q r)∧Hid (Blk wr b1 U)∧Hid (Blk wr b2 Q)∧Hid (Below b1 w1 wr)) (fun v15 _ _=>(intOf v15).toNat)
   case atStart=>exact⟨(x*4294967296+y)/v1,(x*4294967296+y)%v1,by simp,by simp,HG0,HKU1,HKQ1,HW1⟩
   case round =>
   clear HKU1 HKQ1 HW1 HG0 HGt
   obtain⟨q,r,rfl,rfl,HG,HKU,HKQ,HW⟩:=hrel
   have hVw:=HV.out.low (hbU.out.2 ▸ HW.out)
   obtain⟨_,_,epV,hcV0⟩:=hVw.at (k:=M-1) (by omega)
   cases epV
   obtain⟨_,_,epV,hcV1⟩:=hVw.at (k:=M) (by omega)
   cases epV
   have hc3:=HKU.out.cell (i:=j+(M-1)) (by omega)
   rw [hZ0.out] at hc3
   rw [hV0.out.1] at hcV1
   rw [hV0.out.2] at hcV0
   have hrl:=HG.out.rlt
   have hql:=HG.out.le
   have hor:=bor_lo hrl hz
   have hqv:q*v0≤4294967297*4294967295:=Nat.mul_le_mul hql (by omega)
   have eqv:(q:Int)*(v0:Int)=((q*v0:Nat):Int):=by simp
   clear hVw
   have hc3n:∀ n:Nat,(wr.drewN n).cell? ⟨b1,j+(M+1)-2,none⟩=some (.int .u32 (z:Int)):=fun _=>by rw [show j+(M+1)-2=j+(M-1) by omega];exact hc3
   have hcVn:∀ n:Nat,(wr.drewN n).cell? ⟨bV,oV+(M-1),none⟩=some (.int .u32 (v0:Int)):=fun _=>hcV0
   have hcV1n:∀ n:Nat,(wr.drewN n).cell? ⟨bV,oV+M,none⟩=some (.int .u32 (v1:Int)):=fun _=>hcV1
   have HDEC:=Lib.hid (fun hx=>HG.out.down H3.out HB1.out hx)
   have HEX:=Lib.hid (fun hx=>HG.out.exit H3.out hx)
   obtain⟨p,hp⟩:∃ p,q*v0=p:=⟨_,rfl⟩
   rw [hp] at HDEC HEX hqv eqv
   clear hKz hmk2 hmk hor
   have hor:=bor_lo hrl hz
   clear hp
   have h2a:(2:Int)≤(j:Int)+((M:Int)+1):=by omega
   have h2b:(0:Int)≤(j:Int)+((M:Int)+1)-2:=by omega
   have h2d:(j:Int)+((M:Int)+1)-2<(l.length:Int)+1:=by omega
   have h2c:((j:Int)+((M:Int)+1)-2).toNat=j+(M-1):=by omega
   have h2e:((M:Int)+1-2).toNat=M-1:=by omega
   have h2f:(0:Int)≤(M:Int)+1-2:=by omega
   have hc3m:∀ n:Nat,(wr.drewN n).cell? ⟨b1,j+(M-1),none⟩=some (.int .u32 (z:Int)):=fun _=>hc3
   by_cases hqB:4294967296≤q
   ·have hqB' : (4294967296:Int)≤(q:Int):=by omega
    have hqd:decide ((4294967296:Int)≤(q:Int))=true:=decide_eq_true hqB'
    go_wp2_with fail
    go_quiet (fail)
    have hcV9:(wr.drewN nq).cell? ⟨bV,oV+M,none⟩=some (.int .u32 (v1:Int)):=hcV1n nq
    have HKU9:=Lib.hid (HKU.out.drewN nq)
    have HKQ9:=Lib.hid (HKQ.out.drewN nq)
    have HW9:=Lib.hid (below_drewN HW.out nq)
    generalize wr.drewN nq=wr1 at *
    clear hqv hqd hqB' h2a h2b h2c h2d h2e h2f hc3m hc3n hcVn hcV1n hcV0 hcV1 hc3 HKU HKQ HW hor eqv
    have HKU:=HKU9
    have HKQ:=HKQ9
    have HW:=HW9
    clear HKU9 HKQ9 HW9
    have hdec:=HDEC.out (.inl hqB)
    obtain⟨hdec1,hdec2⟩:=hdec
    by_cases hbr:4294967296≤r+v1
    ·have hbr' : (4294967296:Int)≤(r:Int)+(v1:Int):=by omega
     have hq2:=Lib.hid (HG.out.brk H3.out hdec2 hbr)
     have hq1:=Lib.hid hdec1
     clear HDEC HEX hdec1 hbr
     have HS9:∀ u,Hid (Blk u b1 U→Words u (.slice (some ⟨bV,oV,none⟩) V.length cV) V→Calls Tryz.prog 319 #[.slice (some ⟨b1,j,none⟩) (j+(M+1)+1-j) (l.length+1-j),.slice (some ⟨bV,oV,none⟩) (M+1) cV,.int .u64 ((q:Int)-1)] u fun e w' => e=.returned (.int .u64 (val U/4294967296^j/val V:Nat))∧(∃ L,Blk w' b1 L∧Bd L∧L.length=U.length∧val L+4294967296^j*(val U/4294967296^j/val V*val V)=val U∧∀ i,j+(M+1)+1≤i→L.getD i 0=0)∧Only b1 u w'):=fun u h1 h2=>by
      rw [show j+(M+1)+1-j=M+1+1 by omega]
      rw [hlenV] at h2
      rw [show ((q:Int)-1)=((q-1:Nat):Int) by omega]
      exact bigstep_any b1 _ _ U V j (M+1) _ _ u h1 HBU.out h2 (by intro b' off n c e;cases e;exact hbV1) hlenV (by omega) (by omega) (by omega) HD.out.pos (by omega) rfl hq1.out hq2.out HZ.out (by omega)
     have hstep:=HS9 wr1 HKU.out (HV.out.low (hbU.out.2 ▸ HW.out))
     have HSTEP:=Lib.hid hstep
     have HKK:=Lib.hid hK
     have hsl:j+(M+1)≤l.length:=by omega
     have hsl1:j+(M+1)+1≤l.length+1:=by omega
     have hsl2:(j:Int)+((M:Int)+1)≤(l.length:Int):=by omega
     have hsl3:j≤j+(M+1)+1:=by omega
     clear HS9 hq1 hq2 hstep hK
     go_wp2_with fail
     go_call HSTEP.out as _ w6 ⟨rfl,⟨L,hL1,hL2,hL3,hL4,hL5⟩,hO⟩
     have HKL:=Lib.hid hL1
     have HBL:=Lib.hid hL2
     have HX:=Lib.hid hL4
     have HKQ6:Hid (Blk w6 b2 Q):=show Blk w6 b2 Q by unfold Blk;rw [hO.block b2 (lt_of HKQ.out) (Ne.symm hne12)];exact HKQ.out
     have HW6:=Lib.hid (HW.out.trans (only_below hO (Nat.le_refl _) (by have:=lt_of HKU.out;omega)))
     have hgB:=HB1.out
     have HDn:=Lib.hid (HD.out.next (u' := L) (by omega) HX.out)
     have HBQ' := Lib.hid (HBQ.out.set hgB j)
     clear hL1 hL2 hL4 hL5 hO HSTEP HKU HKQ HW HX
     have hcQ:=HKQ6.out.cell (i:=j) (by omega)
     have hfQ:=HKQ6.out.free j
     generalize Q.getD j 0=qd at *
     obtain⟨gg,hgg⟩:∃ g,val U/4294967296^j/val V=g:=⟨_,rfl⟩
     rw [hgg] at HDn HBQ' hgB ⊢
     clear hgg
     go_wp2_with fail
     refine⟨?_,?_⟩
     ·refine⟨j,L,Q.set j gg,by go_num,by omega,by omega,by simp [hQl],HBL,HBQ', HDn,?_,?_,?_⟩
      ·exact Lib.hid (HKL.out.other (Ne.symm hne12) _ _)
      ·exact Lib.hid (HKQ6.out.set j gg)
      ·exact Lib.hid (HW6.out.setCell (by simp;omega) _)
     ·simp [intOf]
    ·have hbr' : ¬ (4294967296:Int)≤(r:Int)+(v1:Int):=by omega
     have HGn:=Lib.hid (HG.out.next hdec1 hdec2 (by omega))
     clear HDEC HEX hdec1 hbr
     go_wp2_with fail
     refine⟨?_,?_⟩
     ·exact⟨q-1,r+v1,by go_num,by go_num,HGn,HKU,HKQ,HW⟩
     ·simp [intOf];omega
   ·have hqB' : ¬ (4294967296:Int)≤(q:Int):=by omega
    have hqd:decide ((4294967296:Int)≤(q:Int))=false:=decide_eq_false hqB'
    by_cases hpr:r*4294967296+z<p
    ·have hpr' : (r:Int)*4294967296+z<(p:Int):=by omega
     go_wp2_with fail
     go_quiet (fail)
     have hcV9:(wr.drewN nq).cell? ⟨bV,oV+M,none⟩=some (.int .u32 (v1:Int)):=hcV1n nq
     have HKU9:=Lib.hid (HKU.out.drewN nq)
     have HKQ9:=Lib.hid (HKQ.out.drewN nq)
     have HW9:=Lib.hid (below_drewN HW.out nq)
     generalize wr.drewN nq=wr1 at *
     clear hqv hqd hqB' h2a h2b h2c h2d h2e h2f hc3m hc3n hcVn hcV1n hcV0 hcV1 hc3 HKU HKQ HW hor eqv
     have HKU:=HKU9
     have HKQ:=HKQ9
     have HW:=HW9
     clear HKU9 HKQ9 HW9
     have hdec:=HDEC.out (.inr hpr)
     obtain⟨hdec1,hdec2⟩:=hdec
     by_cases hbr:4294967296≤r+v1
     ·have hbr' : (4294967296:Int)≤(r:Int)+(v1:Int):=by omega
      have hq2:=Lib.hid (HG.out.brk H3.out hdec2 hbr)
      have hq1:=Lib.hid hdec1
      clear HDEC HEX hdec1 hbr
      have HS9:∀ u,Hid (Blk u b1 U→Words u (.slice (some ⟨bV,oV,none⟩) V.length cV) V→Calls Tryz.prog 319 #[.slice (some ⟨b1,j,none⟩) (j+(M+1)+1-j) (l.length+1-j),.slice (some ⟨bV,oV,none⟩) (M+1) cV,.int .u64 ((q:Int)-1)] u fun e w' => e=.returned (.int .u64 (val U/4294967296^j/val V:Nat))∧(∃ L,Blk w' b1 L∧Bd L∧L.length=U.length∧val L+4294967296^j*(val U/4294967296^j/val V*val V)=val U∧∀ i,j+(M+1)+1≤i→L.getD i 0=0)∧Only b1 u w'):=fun u h1 h2=>by
       rw [show j+(M+1)+1-j=M+1+1 by omega]
       rw [hlenV] at h2
       rw [show ((q:Int)-1)=((q-1:Nat):Int) by omega]
       exact bigstep_any b1 _ _ U V j (M+1) _ _ u h1 HBU.out h2 (by intro b' off n c e;cases e;exact hbV1) hlenV (by omega) (by omega) (by omega) HD.out.pos (by omega) rfl hq1.out hq2.out HZ.out (by omega)
      have hstep:=HS9 wr1 HKU.out (HV.out.low (hbU.out.2 ▸ HW.out))
      have HSTEP:=Lib.hid hstep
      have HKK:=Lib.hid hK
      have hsl:j+(M+1)≤l.length:=by omega
      have hsl1:j+(M+1)+1≤l.length+1:=by omega
      have hsl2:(j:Int)+((M:Int)+1)≤(l.length:Int):=by omega
      have hsl3:j≤j+(M+1)+1:=by omega
      clear HS9 hq1 hq2 hstep hK
      go_wp2_with fail
      go_call HSTEP.out as _ w6 ⟨rfl,⟨L,hL1,hL2,hL3,hL4,hL5⟩,hO⟩
      have HKL:=Lib.hid hL1
      have HBL:=Lib.hid hL2
      have HX:=Lib.hid hL4
      have HKQ6:Hid (Blk w6 b2 Q):=show Blk w6 b2 Q by unfold Blk;rw [hO.block b2 (lt_of HKQ.out) (Ne.symm hne12)];exact HKQ.out
      have HW6:=Lib.hid (HW.out.trans (only_below hO (Nat.le_refl _) (by have:=lt_of HKU.out;omega)))
      have hgB:=HB1.out
      have HDn:=Lib.hid (HD.out.next (u' := L) (by omega) HX.out)
      have HBQ' := Lib.hid (HBQ.out.set hgB j)
      clear hL1 hL2 hL4 hL5 hO HSTEP HKU HKQ HW HX
      have hcQ:=HKQ6.out.cell (i:=j) (by omega)
      have hfQ:=HKQ6.out.free j
      generalize Q.getD j 0=qd at *
      obtain⟨gg,hgg⟩:∃ g,val U/4294967296^j/val V=g:=⟨_,rfl⟩
      rw [hgg] at HDn HBQ' hgB ⊢
      clear hgg
      go_wp2_with fail
      refine⟨?_,?_⟩
      ·refine⟨j,L,Q.set j gg,by go_num,by omega,by omega,by simp [hQl],HBL,HBQ', HDn,?_,?_,?_⟩
       ·exact Lib.hid (HKL.out.other (Ne.symm hne12) _ _)
       ·exact Lib.hid (HKQ6.out.set j gg)
       ·exact Lib.hid (HW6.out.setCell (by simp;omega) _)
      ·simp [intOf]
     ·have hbr' : ¬ (4294967296:Int)≤(r:Int)+(v1:Int):=by omega
      have HGn:=Lib.hid (HG.out.next hdec1 hdec2 (by omega))
      clear HDEC HEX hdec1 hbr
      go_wp2_with fail
      refine⟨?_,?_⟩
      ·exact⟨q-1,by omega,r+v1,by omega,HGn⟩
      ·simp [intOf];omega
    ·have hpr' : ¬ (r:Int)*4294967296+z<(p:Int):=by omega
     have hq2:=Lib.hid (HEX.out (by omega))
     have hq1:=Lib.hid HG.out.ge
     go_wp2_with fail
     go_quiet (fail)
     clear hqv hqd hqB' h2a h2b h2c h2d h2e h2f hc3m hc3n hcVn hcV1n hcV0 hcV1 hc3
     have HKU9:=Lib.hid (HKU.out.drewN nq)
     have HKQ9:=Lib.hid (HKQ.out.drewN nq)
     have HW9:=Lib.hid (below_drewN HW.out nq)
     generalize wr.drewN nq=wr1 at *
     clear HKU HKQ HW
     have HKU:=HKU9;have HKQ:=HKQ9;have HW:=HW9
     clear HKU9 HKQ9 HW9
     have HS9:∀ u,Hid (Blk u b1 U→Words u (.slice (some ⟨bV,oV,none⟩) V.length cV) V→Calls Tryz.prog 319 #[.slice (some ⟨b1,j,none⟩) (j+(M+1)+1-j) (l.length+1-j),.slice (some ⟨bV,oV,none⟩) (M+1) cV,.int .u64 (q:Nat)] u fun e w' => e=.returned (.int .u64 (val U/4294967296^j/val V:Nat))∧(∃ L,Blk w' b1 L∧Bd L∧L.length=U.length∧val L+4294967296^j*(val U/4294967296^j/val V*val V)=val U∧∀ i,j+(M+1)+1≤i→L.getD i 0=0)∧Only b1 u w'):=fun u h1 h2=>by
      rw [show j+(M+1)+1-j=M+1+1 by omega]
      rw [hlenV] at h2
      exact bigstep_any b1 _ _ U V j (M+1) _ _ u h1 HBU.out h2 (by intro b' off n c e;cases e;exact hbV1) hlenV (by omega) (by omega) (by omega) HD.out.pos (by omega) rfl hq1.out hq2.out HZ.out (by omega)
     have hstep:=HS9 wr1 HKU.out (HV.out.low (hbU.out.2 ▸ HW.out))
     have HSTEP:=Lib.hid hstep
     have HKK:=Lib.hid hK
     have hsl:j+(M+1)≤l.length:=by omega
     have hsl1:j+(M+1)+1≤l.length+1:=by omega
     have hsl2:(j:Int)+((M:Int)+1)≤(l.length:Int):=by omega
     have hsl3:j≤j+(M+1)+1:=by omega
     clear HS9 hq1 hq2 hstep hK
     go_wp2_with fail
     go_call HSTEP.out as _ w6 ⟨rfl,⟨L,hL1,hL2,hL3,hL4,hL5⟩,hO⟩
     have HKL:=Lib.hid hL1
     have HBL:=Lib.hid hL2
     have HX:=Lib.hid hL4
     have HKQ6:Hid (Blk w6 b2 Q):=show Blk w6 b2 Q by unfold Blk;rw [hO.block b2 (lt_of HKQ.out) (Ne.symm hne12)];exact HKQ.out
     have HW6:=Lib.hid (HW.out.trans (only_below hO (Nat.le_refl _) (by have:=lt_of HKU.out;omega)))
     have hgB:=HB1.out
     have HDn:=Lib.hid (HD.out.next (u' := L) (by omega) HX.out)
     have HBQ' := Lib.hid (HBQ.out.set hgB j)
     clear hL1 hL2 hL4 hL5 hO HSTEP HKU HKQ HW HX
     have hcQ:=HKQ6.out.cell (i:=j) (by omega)
     have hfQ:=HKQ6.out.free j
     generalize Q.getD j 0=qd at *
     obtain⟨gg,hgg⟩:∃ g,val U/4294967296^j/val V=g:=⟨_,rfl⟩
     rw [hgg] at HDn HBQ' hgB ⊢
     clear hgg
     go_wp2_with fail
     refine⟨?_,?_⟩
     ·refine⟨j,L,Q.set j gg,by go_num,by omega,by omega,by simp [hQl],HBL,HBQ', HDn,?_,?_,?_⟩
      ·exact Lib.hid (HKL.out.other (Ne.symm hne12) _ _)
      ·exact Lib.hid (HKQ6.out.set j gg)
      ·exact Lib.hid (HW6.out.setCell (by simp;omega) _)
     ·simp [intOf]
theorem bigdivide_any(v v': Value)(l m:List Nat)(w:World)(h:Words w v l)(h': Words w v' m)(cl:Canon l)(cm:Canon m)(hm:m≠[])(hl:l.length≤137438953472):Calls Tryz.prog 300 #[v,v'] w fun e w' => ∃ q r,e=.returned (.tuple #[q,r])∧Mag w' q (val l/val m)∧Mag w' r (val l%val m)∧Below w.heap.size w w' := by
 have Hb:=h.bd
 have Hb' := h'.bd
 have hm0:m.length≠0:=fun e=>hm (List.length_eq_zero_iff.1 e)
 by_cases hle:val m≤val l
 ·by_cases h1:m.length=1
  ·obtain⟨e1,e2,e3,e4⟩:=canon_one h1 Hb' cm
   have hmk:=canon_len_le Hb' Hb cm hle
   obtain⟨a,c,rfl,hc1,hc2⟩:=h.len
   obtain⟨a', c', rfl,hc1', hc2'⟩:=h'.len
   obtain⟨b,off,rfl,hca⟩:=h'.at (k:=0) (by omega)
   have hcmp:¬ cmp3 (val l) (val m)<0:=by unfold cmp3;rw [if_neg (by omega)];split<;>omega
   have hu:=bigunder_any _ _ l m w h h' cl cm
   have hs:=fun n=>bigshort_any _ l (m.getD 0 0) (w.drewN n) (h.drewN n) e2 e3 (by omega)
   rw [h1] at hu hc1' ⊢
   rw [e4]
   rw [e4] at hu hcmp
   have hmod:=Nat.mod_lt (val l) e2
   clear h h' e1 e4 hle cl cm
   generalize m.getD 0 0=d at *
   obtain⟨r,hr⟩:∃ r,val l%d=r:=⟨_,rfl⟩
   rw [hr] at hs hmod ⊢
   have HS:=fun n=>Lib.hid (hs n)
   clear hs hr
   go_enter Tryz.func300,Tryz.ntmps300
   go_wp2_with fail
   go_call hu as _ _ ⟨rfl,n,rfl⟩
   have hcn:(w.drewN n).cell? ⟨b,off,none⟩=some (.int .u32 (d:Int)):=hca
   go_wp2_with fail
   go_call (HS n).out as _ w1 ⟨q,rfl,hq,hW⟩
   have HQ:=Lib.hid hq
   clear hq
   go_wp2_with fail
   go_call (bigcut_any _ [r] _ (Words.one (by omega) (by omega))) as _ _ ⟨rfl,rfl⟩
   have HC:Hid _:=Lib.hid (Mag.cutOne (w:=w1) (r:=r) (by omega) rfl _ rfl)
   go_wp2
   go_ret2
   have hB:Below w.heap.size w w1:=(below_drewN (Below.refl _ _) n).trans hW
   exact⟨_,_,rfl,HQ.out.low (Below.alloc (Below.refl _ _) (Nat.le_refl _) _),HC.out,hB.alloc hB.size _⟩
  ·exact bigdivide_long v v' l m w (M:=m.length-1) h h' cl cm (by omega) (by omega) hle hl
 ·have hlt:val l<val m:=by omega
  have hu:=bigunder_any _ _ l m w h h' cl cm
  have hcmp:=cmp3_neg hlt
  obtain⟨a,c,rfl,hc1,hc2⟩:=h.len
  obtain⟨a', c', rfl,hc1', hc2'⟩:=h'.len
  have H1:=Lib.hid h
  have Hc:=Lib.hid cl
  rw [Nat.div_eq_of_lt hlt,Nat.mod_eq_of_lt hlt]
  clear h h' hlt hle cl cm
  go_enter Tryz.func300,Tryz.ntmps300
  go_wp2_with fail
  go_call hu as _ _ ⟨rfl,n,rfl⟩
  go_wp2
  go_ret2
  exact⟨_,_,rfl,⟨[],.inl ⟨rfl,rfl⟩,by simp [Canon],rfl⟩,⟨l,H1.out.drewN n,Hc.out,rfl⟩,below_drewN (Below.refl _ _) n⟩
end Go.Proofs.YtcdbmjnipaochaaGreat
namespace Go.Proofs.YtcdbmjnipaochaaGreat
def natL:List UInt8→Nat
 | []=>0
 | c::l=>c.toNat+256*natL l
def leB(n:Nat):List UInt8:=if h:n=0 then [] else UInt8.ofNat (n%256)::leB (n/256)
termination_by n
decreasing_by omega
def bytesOf(n:Nat):List UInt8:=(leB n).reverse
def natB(l:List UInt8):Nat:=natL l.reverse
def FormL(l:List UInt8):Prop:=l.getLast? ≠ some 0
def formB(l:List UInt8):Prop:=l.head? ≠ some 0
theorem natL_append(l m:List UInt8):natL (l++m)=natL l+256^l.length*natL m:=by
 induction l with
 | nil=>simp [natL]
 | cons x l ih=>simp only [List.cons_append,natL,ih,List.length_cons,Nat.pow_succ];rw [Nat.mul_add,Nat.mul_comm (256^l.length) 256,Nat.mul_assoc];omega
theorem natL_lt(l:List UInt8):natL l<256^l.length:=by
 induction l with
 | nil=>simp [natL]
 | cons x l ih =>
  have:=x.toNat_lt
  simp only [natL,List.length_cons,Nat.pow_succ]
  omega
theorem natL_take_succ(l:List UInt8)(i:Nat)(h:i<l.length):natL (l.take (i+1))=natL (l.take i)+256^i*(l[i]).toNat:=by
 rw [List.take_succ_eq_append_getElem h,natL_append,List.length_take,Nat.min_eq_left (by omega)]
 simp [natL]
theorem leB_zero:leB 0=[]:=by rw [leB];simp
theorem leB_pos{n:Nat}(h:n≠0):leB n=UInt8.ofNat (n%256)::leB (n/256):=by rw [leB];simp [h]
theorem natL_leB(n:Nat):natL (leB n)=n:=by
 induction n using Nat.strongRecOn with
 | _ n ih =>
  by_cases h:n=0
  ·subst h;rw [leB_zero];rfl
  ·rw [leB_pos h,natL,ih (n/256) (by omega)]
   simp
   omega
theorem formL_leB(n:Nat):FormL (leB n):=by
 induction n using Nat.strongRecOn with
 | _ n ih =>
  by_cases h:n=0
  ·subst h;rw [leB_zero];simp [FormL]
  ·rw [leB_pos h]
   have h2:=ih (n/256) (by omega)
   unfold FormL at *
   by_cases h3:n/256=0
   ·rw [h3,leB_zero]
    simp only [List.getLast?_singleton,ne_eq,Option.some.injEq]
    intro e
    have:=congrArg UInt8.toNat e
    simp at this
    omega
   ·rw [leB_pos h3] at h2 ⊢
    simpa [List.getLast?_cons_cons] using h2
theorem natL_inj{l m:List UInt8}(hl:FormL l)(hm:FormL m)(h:natL l=natL m):l=m:=by
 induction l generalizing m with
 | nil =>
  cases m with
  | nil=>rfl
  | cons y m =>
   exfalso
   have key:∀ (q:List UInt8),q≠[]→FormL q→0<natL q:=by
    intro q
    induction q with
    | nil=>intro h;exact absurd rfl h
    | cons z q ih =>
     intro _ hz
     cases q with
     | nil =>
      simp only [FormL,List.getLast?_singleton,ne_eq,Option.some.injEq] at hz
      have:z.toNat≠0:=fun e=>hz (by rw [← UInt8.toNat_inj];simpa using e)
      simp [natL];omega
     | cons y q =>
      have:=ih (by simp) (by simpa [FormL,List.getLast?_cons_cons] using hz)
      rw [natL];omega
   have:=key (y::m) (by simp) hm
   rw [← h] at this
   simp [natL] at this
 | cons x l ih =>
  cases m with
  | nil =>
   exfalso
   have key:∀ (q:List UInt8),q≠[]→FormL q→0<natL q:=by
    intro q
    induction q with
    | nil=>intro h;exact absurd rfl h
    | cons z q ih =>
     intro _ hz
     cases q with
     | nil =>
      simp only [FormL,List.getLast?_singleton,ne_eq,Option.some.injEq] at hz
      have:z.toNat≠0:=fun e=>hz (by rw [← UInt8.toNat_inj];simpa using e)
      simp [natL];omega
     | cons y q =>
      have:=ih (by simp) (by simpa [FormL,List.getLast?_cons_cons] using hz)
      rw [natL];omega
   have:=key (x::l) (by simp) hl
   rw [h] at this
   simp [natL] at this
  | cons y m =>
   simp only [natL] at h
   have hx:=x.toNat_lt;have hy:=y.toNat_lt
   have e:x=y:=by rw [← UInt8.toNat_inj];omega
   subst e
   have hl' : FormL l:=by
    cases l with
    | nil=>simp [FormL]
    | cons z l=>simpa [FormL,List.getLast?_cons_cons] using hl
   have hm' : FormL m:=by
    cases m with
    | nil=>simp [FormL]
    | cons z l=>simpa [FormL,List.getLast?_cons_cons] using hm
   rw [ih hl' hm' (by omega)]
theorem natB_bytesOf(n:Nat):natB (bytesOf n)=n:=by rw [natB,bytesOf,List.reverse_reverse,natL_leB]
theorem formB_bytesOf(n:Nat):formB (bytesOf n):=by
 have:=formL_leB n
 unfold formB bytesOf
 rw [List.head?_reverse];exact this
theorem bytesOf_natB{l:List UInt8}(h:formB l):bytesOf (natB l)=l:=by
 have h1:FormL l.reverse:=by unfold FormL;rw [List.getLast?_reverse];exact h
 have:=natL_inj (formL_leB _) h1 (natL_leB (natL l.reverse))
 unfold bytesOf natB
 rw [this,List.reverse_reverse]
theorem leB_len_le{n k:Nat}:(leB n).length≤k↔n<256^k:=by
 constructor
 ·intro h
  have:=natL_lt (leB n)
  rw [natL_leB] at this
  exact Nat.lt_of_lt_of_le this (Nat.pow_le_pow_right (by decide) h)
 ·intro h
  induction k generalizing n with
  | zero=>simp at h;subst h;rw [leB_zero];simp
  | succ k ih =>
   by_cases h0:n=0
   ·subst h0;rw [leB_zero];simp
   ·rw [leB_pos h0,List.length_cons]
    have:=ih (n:=n/256) (by rw [Nat.div_lt_iff_lt_mul (by decide)];rwa [← Nat.pow_succ])
    omega
theorem bytesOf_len(n:Nat):(bytesOf n).length=(leB n).length:=by simp [bytesOf]
theorem leB_get{n i:Nat}(h:i<(leB n).length):((leB n)[i]).toNat=n/256^i%256:=by
 induction i generalizing n with
 | zero =>
  by_cases h0:n=0
  ·subst h0;rw [leB_zero] at h;simp at h
  ·simp only [leB_pos h0,List.getElem_cons_zero];simp
 | succ i ih =>
  by_cases h0:n=0
  ·subst h0;rw [leB_zero] at h;simp at h
  ·simp only [leB_pos h0,List.getElem_cons_succ]
   have h' : i<(leB (n/256)).length:=by rw [leB_pos h0] at h;simpa using h
   rw [ih h', Nat.div_div_eq_div_mul,Nat.pow_succ,Nat.mul_comm 256]
theorem leB_len{n k:Nat}(h:n<256^k)(h0:k=0∨n/256^(k-1)%256≠0):(leB n).length=k:=by
 have h1:=leB_len_le.2 h
 rcases h0 with h0|h0
 ·omega
 ·rcases Nat.lt_or_ge (leB n).length k with h2|h2
  ·exfalso
   apply h0
   have:n<256^(k-1):=leB_len_le.1 (by omega)
   rw [Nat.div_eq_of_lt this]
  ·omega
theorem natB_ge{l:List UInt8}(h:formB l)(hne:l≠[]):256^(l.length-1)≤natB l:=by
 have e:=bytesOf_natB h
 rcases Nat.lt_or_ge (natB l) (256^(l.length-1)) with h1|h1
 ·have:=leB_len_le.2 h1
  rw [← bytesOf_len,e] at this
  have:l.length≠0:=fun e=>hne (List.length_eq_zero_iff.1 e)
  omega
 ·exact h1
theorem pow_words(k:Nat):(4294967296:Nat)^k=256^(4*k):=by
 rw [Nat.pow_mul]
theorem digit_small{l:List Nat}(hb:Bd l){i:Nat}(h:val l<256^i):l.getD (i/4) 0<256^(i%4):=by
 have e:=val_div hb (i/4)
 rw [val_drop] at e
 have h1:val l/4294967296^(i/4)<256^(i%4):=by
  rw [Nat.div_lt_iff_lt_mul (Nat.pow_pos (by decide)),pow_words,← Nat.pow_add]
  rwa [show i%4+4*(i/4)=i by omega]
 omega
theorem val_put_byte{l:List Nat}(hb:Bd l){i c:Nat}(hi:i/4<l.length)(h:val l<256^i)(hc:c<256):l.getD (i/4) 0+c*256^(i%4)<4294967296∧val (l.set (i/4) (l.getD (i/4) 0+c*256^(i%4)))=val l+256^i*c:=by
 have h1:=digit_small hb h
 have h2:c*256^(i%4)+256^(i%4)≤4294967296:=by
  have:(c+1)*256^(i%4)≤256*256^(i%4):=Nat.mul_le_mul_right _ (by omega)
  rw [Nat.add_mul,Nat.one_mul] at this
  have h3:256*256^(i%4)≤4294967296:=by
   have:i%4<4:=Nat.mod_lt _ (by decide)
   rcases (by omega:i%4=0∨i%4=1∨i%4=2∨i%4=3) with e|e|e|e<;>rw [e]<;>decide
  omega
 refine⟨by omega,?_⟩
 have e:=val_set l (i/4) (l.getD (i/4) 0+c*256^(i%4)) hi
 have e2:256^i*c=4294967296^(i/4)*(c*256^(i%4)):=by
  rw [pow_words,Nat.mul_comm c,← Nat.mul_assoc,← Nat.pow_add,show 4*(i/4)+i%4=i by omega]
 rw [e2]
 generalize 4294967296^(i/4)=B at *
 generalize c*256^(i%4)=x at *
 rw [Nat.mul_add] at e
 omega
theorem get_byte{l:List Nat}(hb:Bd l)(i:Nat):l.getD (i/4) 0/256^(i%4)%256=val l/256^i%256:=by
 have e:=val_div hb (i/4)
 rw [val_drop] at e
 have e2:val l/256^i=(l.getD (i/4) 0+4294967296*val (l.drop (i/4+1)))/256^(i%4):=by
  rw [← e,pow_words,Nat.div_div_eq_div_mul,← Nat.pow_add,show 4*(i/4)+i%4=i by omega]
 rw [e2]
 generalize val (l.drop (i/4+1))=R
 generalize l.getD (i/4) 0=x
 have:i%4<4:=Nat.mod_lt _ (by decide)
 rcases (by omega:i%4=0∨i%4=1∨i%4=2∨i%4=3) with e|e|e|e<;>rw [e]<;>omega
end Go.Proofs.YtcdbmjnipaochaaGreat
namespace Go.Proofs.YtcdbmjnipaochaaGreat
open Go.RowKit Rgn
def strV(l:List UInt8):Value:=.string ⟨l.toArray⟩
def whoV(neg:Bool)(n:Nat):Value:=.agg #[.bool (neg&&n != 0),strV (bytesOf n)]
theorem info_u8:(Tryz.prog.info? 5).map (fun i=>(i.zero,i.size,i.bytes))=some (some (.int .u8 0),1,1):=by kernel_rfl
def bcells(l:List UInt8):Array Value:=(l.map fun c=>Value.int .u8 (c.toNat:Int)).toArray
theorem made_bcells(n:Nat):madeCells #[.int .u8 0] n=bcells (List.replicate n 0):=by
 apply Array.ext
 ·simp [size_madeCells,bcells]
 ·intro i h1 h2
  simp [madeCells,bcells,Nat.mod_one]
theorem make_bytes(z:Int)(n:Nat)(hz:z=n)(hn:n≤1099511627776)(u:World):(Instr.makeSlice 243 (.int .i64 z) (.int .i64 z)).run Tryz.prog u =
   .ok (.slice (some ⟨u.heap.size,0,none⟩) n n) (u.alloc (.cells (bcells (List.replicate n 0)) 5)):=by
 subst hz
 obtain⟨i0,hi,hz0,hz1,hz2⟩:=info_parts info_u8
 have h:=run_make (P:=Tryz.prog) u 243 5 i0 (.int .u8 0) Tryz.underlying243 hi hz0 .i64 .i64 (n:Int) (n:Int) (by omega) (Int.le_refl _) (by rw [hz2];omega) (by omega)
 rw [← made_bcells]
 simpa [hz1,Value.cells] using h
def BBlk(w:World)(b:Nat)(l:List UInt8):Prop:=w.heap[b]? = some (.cells (bcells l) 5 (0,0))
theorem BBlk.alloc(w:World)(l:List UInt8):BBlk (w.alloc (.cells (bcells l) 5)) w.heap.size l:=(MapKept.heap_alloc w _).1
theorem BBlk.cell{w b l}(h:BBlk w b l){i:Nat}(hi:i<l.length):w.cell? ⟨b,i,none⟩=some (.int .u8 ((l[i]).toNat:Int)):=by
 unfold BBlk at h
 simp [World.cell?,h,bcells,hi]
theorem BBlk.free{w b l}(h:BBlk w b l)(i:Nat):w.frozen? ⟨b,i,none⟩=false:=by
 unfold BBlk at h
 simp [World.frozen?,h]
theorem BBlk.set{w b l}(h:BBlk w b l)(i:Nat)(c:UInt8):BBlk (w.setCell ⟨b,i,none⟩ (.int .u8 (c.toNat:Int))) b (l.set i c):=by
 unfold BBlk at *
 rw [setCell_at h]
 simp [bcells,List.map_set]
theorem BBlk.low{w w': World}{b:Nat}{l:List UInt8}(h:BBlk w b l)(hb:Below w.heap.size w w'):BBlk w' b l:=by
 unfold BBlk at *;rw [hb.block b (lt_of h)];exact h
def laid(R:List UInt8)(n i:Nat):List UInt8:=List.replicate (n-i) 0++(R.take i).reverse
theorem laid_len{R:List UInt8}{i:Nat}(hi:i≤R.length):(laid R R.length i).length=R.length:=by
 simp [laid];omega
theorem laid_step{R:List UInt8}{i:Nat}(hi:i<R.length):(laid R R.length i).set (R.length-1-i) R[i]=laid R R.length (i+1):=by
 unfold laid
 rw [List.take_succ_eq_append_getElem hi,List.reverse_append]
 obtain⟨k,hk⟩:∃ k,R.length-i=k+1:=⟨R.length-i-1,by omega⟩
 rw [hk,show R.length-1-i=k by omega,show R.length-(i+1)=k by omega,List.replicate_succ', List.append_assoc,List.set_append_right _ _ (by simp)]
 simp
theorem laid_step'{R:List UInt8}{n i k:Nat}{c:UInt8}(hn:R.length=n)(hi:i<n)(hk:k=n-1-i)(hc:R[i]? = some c):(laid R n i).set k c=laid R n (i+1):=by
 subst hn;subst hk
 rw [← laid_step hi]
 rw [List.getElem?_eq_getElem hi] at hc
 cases hc;rfl
theorem BBlk.str{w:World}{b:Nat}{l:List UInt8}(h:BBlk w b l)(n cap:Nat)(hn:n=l.length):(convert 243 9 (.slice (some ⟨b,0,none⟩) n cap)).run Tryz.prog w=.ok (strV l) w:=by
 subst hn
 refine run_convert_bytes_back w _ _ 5 ⟨b,0,none⟩ cap l Tryz.underlying243 Tryz.underlying5 Tryz.underlying9 fun j hj=>?_
 have e:(⟨b,0,none⟩:Addr).add j=⟨b,j,none⟩:=by unfold Addr.add;split<;>simp_all
 rw [e];exact h.cell hj
theorem laid_all(R:List UInt8):laid R R.length R.length=R.reverse:=by simp [laid]
theorem laid_none(R:List UInt8)(n:Nat):laid R n 0=List.replicate n 0:=by simp [laid]
theorem bytes_lt{v n m:Nat}(hm:n=m+1)(h:v<256^n)(h0:v/256^m%256=0):v<256^m:=by
 subst hm
 have:v/256^m<256:=by rw [Nat.div_lt_iff_lt_mul (Nat.pow_pos (by decide)),Nat.mul_comm,← Nat.pow_succ];exact h
 rw [Nat.mod_eq_of_lt this] at h0
 rcases Nat.lt_or_ge v (256^m) with h1|h1
 ·exact h1
 ·have:=Nat.div_pos h1 (Nat.pow_pos (by decide));omega
theorem refmade_any(neg:Bool)(v:Value)(l0:List Nat)(w:World)(h0:Words w v l0)(hl:l0.length≤137438953472):Calls Tryz.prog 264 #[.bool neg,v] w fun e w' => e=.returned (whoV neg (val l0))∧Below w.heap.size w w' := by
 have Hb0:=h0.bd
 obtain⟨a,c,rfl,hc1,hc2⟩:=h0.len
 have hcut:=fun (u:World) (hb:Below w.heap.size w u)=>refcut_any _ l0 u (h0.low hb)
 have h1:=h0.cut
 have hT:=trim_len l0
 have hv:val (trim l0)=val l0:=val_trim l0
 have Hb:Bd (trim l0):=h1.bd
 have HC:=Lib.hid (trim_canon l0)
 simp only [cutV] at hcut h1
 rw [← hv]
 clear h0 hv Hb0
 generalize trim l0=l at *
 have HW0:=Lib.hid h1
 clear h1
 have hWa:∀ o,Below w.heap.size w (w.alloc o):=fun o=>Below.alloc (Below.refl _ _) (Nat.le_refl _) o
 by_cases hz:l.length=0
 ·have e:l=[]:=List.length_eq_zero_iff.1 hz
  subst e
  go_enter Tryz.func264,Tryz.ntmps264
  go_wp2_with fail
  go_call (hcut _ (hWa _)) as _ _ ⟨rfl,rfl⟩
  go_wp2_with fail
  refine bodyPost_ret (v:=whoV neg (val [])) ?_ rfl ⟨rfl,Below.alloc (Below.refl _ _) (Nat.le_refl _) _⟩
  simp [results,Tryz.results264,go_sem,whoV,val,bytesOf,leB_zero,strV]
 have hz' : ((l.length:Int) == 0)=false:=by rw [beq_eq_false_iff_ne];omega
 have hv256:val l<256^(4*l.length):=by rw [← pow_words];exact val_lt Hb
 go_enter Tryz.func264,Tryz.ntmps264
 go_wp2_with fail
 go_call (hcut _ (hWa _)) as _ _ ⟨rfl,rfl⟩
 go_wp2_with fail
 obtain⟨w1,hw1⟩:∃ w1,w1=w.alloc (.cells #[.bool false,.string ByteArray.empty] 23):=⟨_,rfl⟩
 have hw1' := hw1
 rw [show ByteArray.empty=⟨#[]⟩ from rfl] at hw1'
 rw [← hw1']
 have hB1:=hWa (.cells #[.bool false,.string ByteArray.empty] 23)
 have hR1:w1.heap[w.heap.size]? = some (.cells #[.bool false,.string ByteArray.empty] 23 (0,0)):=by rw [hw1];exact (MapKept.heap_alloc w _).1
 rw [← hw1] at hB1
 have HW1:=Lib.hid (HW0.out.low hB1)
 clear hw1 hw1' hWa hcut HW0
 go_loop [5] (fun v5=>∃ n:Nat,v5=.int .i64 n∧n≤4*l.length∧Hid (val l<256^n)) (fun v5=>(intOf v5).toNat)
 case atStart=>exact⟨4*l.length,by go_num,by omega,hv256⟩
 case round =>
  obtain⟨n,rfl,hn,HV⟩:=hrel
  cases n with
  | zero =>
   exfalso
   have h1:=canon_val_pos HC.out (fun e=>hz (by rw [e];rfl))
   have h2:val l<256^0:=HV.out
   rw [Nat.pow_zero] at h2
   omega
  | succ m =>
   obtain⟨q,hq⟩:∃ q,q=m/4:=⟨_,rfl⟩
   obtain⟨r,hr⟩:∃ r,r=m%4:=⟨_,rfl⟩
   have hqI:(m:Int)/4=(q:Int):=by omega
   have hrI:(m:Int)%4=(r:Int):=by omega
   have hgb:=get_byte Hb m
   rw [← hq,← hr] at hgb
   obtain⟨t,ht⟩:∃ t,t=8*r:=⟨_,rfl⟩
   have htI:8*(r:Int)=(t:Int):=by omega
   obtain⟨p,hp⟩:∃ p,p=256^r:=⟨_,rfl⟩
   have hpI:(2:Int)^t=(p:Int):=by
    have h2:(2:Nat)^(8*r)=256^r:=by rw [Nat.pow_mul]
    rw [ht,hp,← h2];simp
   obtain⟨b,off,rfl,hca⟩:=HW1.out.at (k:=q) (by omega)
   have hx:=Hb.getD q
   rw [← hp] at hgb
   generalize l.getD q 0=x at *
   have eq:(x:Int)/(p:Int)=((x/p:Nat):Int):=by simp
   have hxp:x/p≤x:=Nat.div_le_self _ _
   generalize x/p=y at *
   have em:(((m+1:Nat):Int))=(m:Int)+1:=by omega
   rw [em]
   clear em hp hq hr ht
   have hm8:m<1099511627776:=by omega
   by_cases hy:y%256=0
   ·have hy' : ((y:Int)%256 == 0)=true:=by rw [beq_iff_eq];omega
    have HV' := Lib.hid (bytes_lt rfl HV.out (by rw [← hgb];exact hy))
    go_wp2_with fail
    exact⟨⟨m,rfl,by omega,HV'⟩,by simp [intOf]⟩
   ·have hy' : ((y:Int)%256 == 0)=false:=by rw [beq_eq_false_iff_ne];omega
    have HL:Hid ((leB (val l)).length=m+1):=show _=_ from leB_len HV.out (.inr (by rw [Nat.add_sub_cancel,← hgb];exact hy))
    have hmk:=make_bytes ((m:Int)+1) (m+1) (by omega) (by omega)
    go_wp2_with fail
    clear hqI hrI htI hpI eq hgb hca hy hy' hxp hx HV
    have HV1:=HW1
    go_loopw [7] (fun v7 wr=>∃ i:Nat,v7=.int .i64 i∧i≤m+1∧Hid (BBlk wr w1.heap.size (laid (leB (val l)) (m+1) i))∧Hid (Below w1.heap.size w1 wr)) (fun v7 _=>m+1-(intOf v7).toNat)
    case atStart =>
     refine⟨0,rfl,by omega,?_,?_⟩
     ·rw [laid_none];exact BBlk.alloc _ _
     ·exact Lib.hid (Below.alloc (Below.refl _ _) (Nat.le_refl _) _)
    case round =>
    obtain⟨i,rfl,hi,HK,HW⟩:=hrel
    by_cases him:i<m+1
    ·have him' : (i:Int)<(m:Int)+1:=by omega
     obtain⟨k,hk⟩:∃ k,k=m-i:=⟨_,rfl⟩
     have hkI:(m:Int)-(i:Int)=(k:Int):=by omega
     obtain⟨q,hq⟩:∃ q,q=i/4:=⟨_,rfl⟩
     obtain⟨r,hr⟩:∃ r,r=i%4:=⟨_,rfl⟩
     have hqI:(i:Int)/4=(q:Int):=by omega
     have hrI:(i:Int)%4=(r:Int):=by omega
     have hgb:=get_byte Hb i
     rw [← hq,← hr] at hgb
     obtain⟨t,ht⟩:∃ t,t=8*r:=⟨_,rfl⟩
     have htI:8*(r:Int)=(t:Int):=by omega
     obtain⟨p,hp⟩:∃ p,p=256^r:=⟨_,rfl⟩
     have hpI:(2:Int)^t=(p:Int):=by
      have h2:(2:Nat)^(8*r)=256^r:=by rw [Nat.pow_mul]
      rw [ht,hp,← h2];simp
     have hlen:=HL.out
     obtain⟨_,_,epl,hca⟩:=(HV1.out.low HW.out).at (k:=q) (by omega)
     cases epl
     have hx:=Hb.getD q
     rw [← hp] at hgb
     generalize l.getD q 0=x at *
     have eq:(x:Int)/(p:Int)=((x/p:Nat):Int):=by simp
     have hxp:x/p≤x:=Nat.div_le_self _ _
     generalize x/p=y at *
     obtain⟨d,hd,hbyte⟩:∃ d,(leB (val l))[i]? = some d∧d.toNat=y%256:=⟨_,List.getElem?_eq_getElem (by omega),by rw [leB_get,hgb]⟩
     have HE:=Lib.hid (laid_step' (k:=k) hlen him (by omega) hd)
     have HX:=Lib.hid (HK.out.set k d)
     have hkl:(laid (leB (val l)) (m+1) i).length=m+1:=by
      have:=laid_len (R:=leB (val l)) (i:=i) (by omega)
      rwa [hlen] at this
     have hfr:=HK.out.free k
     have hcl:=HK.out.cell (i:=k) (by omega)
     generalize ((laid (leB (val l)) (m+1) i)[k]'(by omega)).toNat=z at *
     rw [hbyte] at HX
     clear hgb hp hq hr ht hk hlen hbyte hd
     go_wp2_with fail
     refine⟨?_,?_⟩
     ·refine⟨i+1,by go_num,by omega,?_,Lib.hid (HW.out.setCell (Nat.le_refl _) _)⟩
      rw [← HE.out]
      have:=HX.out
      rw [show ((y%256:Nat):Int)=(y:Int)%256 by omega] at this
      exact Lib.hid this
     ·simp [intOf];omega
    ·have him' : ¬ (i:Int)<(m:Int)+1:=by omega
     have e:i=m+1:=by omega
     subst e
     have hst:(convert 243 9 (.slice (some ⟨w1.heap.size,0,none⟩) (m+1) (m+1))).run Tryz.prog wr=.ok (strV (bytesOf (val l))) wr:=by
      have h1:=laid_all (leB (val l))
      rw [HL.out] at h1
      have h2:=HK.out
      rw [h1] at h2
      exact h2.str _ _ (by simp [HL.out])
     have hR:wr.heap[w.heap.size]? = some (.cells #[.bool false,.string ByteArray.empty] 23 (0,0)):=by
      rw [HW.out.block _ (by exact lt_of hR1)];exact hR1
     have HB2:Hid (Below w.heap.size w wr):=Lib.hid (hB1.trans (HW.out.mono hB1.size))
     have hne:Hid ((val l != 0)=true):=Lib.hid (by
      have:=canon_val_pos HC.out (fun e=>hz (by rw [e];rfl))
      rw [bne_iff_ne];omega)
     have hf1:wr.frozen? ⟨w.heap.size,0,none⟩=false:=frozen_of hR
     have hf2:wr.frozen? ⟨w.heap.size,1,none⟩=false:=frozen_of hR
     have hcc1:=cell_of (off:=0) hR rfl
     have hcc2:=cell_of (off:=1) hR rfl
     obtain⟨B,hB⟩:∃ B:ByteArray,B=⟨(bytesOf (val l)).toArray⟩:=⟨_,rfl⟩
     have hst' : (convert 243 9 (.slice (some ⟨w1.heap.size,0,none⟩) (m+1) (m+1))).run Tryz.prog wr=.ok (.string B) wr:=by rw [hB];exact hst
     have HBs:=Lib.hid hB
     clear hst hB
     go_wp2_with fail
     have hR2:=setCell_at (o:=0) (v:=.bool neg) hR
     have hR3:=setCell_at (o:=1) (v:=.string B) hR2
     refine ret_ok rfl (results_row rfl rfl hR3 Tryz.underlying23 rfl (by kernel_rfl)) ⟨?_,?_⟩
     ·rw [HBs.out]
      simp [whoV,strV,hne.out]
     ·exact (HB2.out.setCell (Nat.le_refl _) _).setCell (by simp) _
end Go.Proofs.YtcdbmjnipaochaaGreat
namespace Go.Proofs.YtcdbmjnipaochaaGreat.Rgn
open Go
section
variable {P:Program}
theorem ex_load_row{ρ:Operand→Value}{o:Oper}{w:World}(ty:TypeId)(x:Operand)(ho:o.op=.load ty x){g:Nat}(hx:ρ x=.pointer (some ⟨g,0,none⟩)){t:TypeId}{cs:Array Value}{fr:Nat×Nat}(hg:w.heap[g]? = some (.cells cs t fr)){d:TypeDesc}(hu:P.underlying ty=some d)(hd:(match d with|.struct _|.array _ _=>true|_=>false)=true)(hi:(P.info? ty).map (·.size)=some cs.size):(execOp ρ o).run P w=.ok (.value (.agg cs)) w:=by
 unfold execOp
 simp only [ho,hx,Instr.loadAt,Instr.sureAddr,Sem.run_bind,Sem.run_pure,Result.andThen_ok,run_loadVar_row w g t ty cs fr d hg hu hd hi]
theorem run_loadCells_part(w:World)(g off:Nat)(cs:Array Value)(t:TypeId)(fr:Nat×Nat)(hg:w.heap[g]? = some (.cells cs t fr)):∀ (n i:Nat) (acc:Array Value),off+i+n≤cs.size →
  (loadCellsFrom ⟨g,off,none⟩ i n acc).run P w=.ok (acc++cs.extract (off+i) (off+i+n)) w
 | 0,i,acc,_=>by
  simp only [loadCellsFrom,Nat.add_zero]
  rw [Array.extract_eq_empty_of_le (by omega)]
  simp
 | n+1,i,acc,h=>by
  have hadd:(⟨g,off,none⟩:Addr).add i=⟨g,off+i,none⟩:=by unfold Addr.add;split<;>simp_all
  have hlt:off+i<cs.size:=by omega
  have hc:w.cell? ⟨g,off+i,none⟩=some cs[off+i]:=by simp [World.cell?,hg,hlt]
  have ih:=run_loadCells_part w g off cs t fr hg n (i+1) (acc.push cs[off+i]) (by omega)
  have hl:(load ((⟨g,off,none⟩:Addr).add i)).run P w=.ok cs[off+i] w:=by
   rw [hadd];simp [go_sem,hc]
  simp only [loadCellsFrom,Sem.run_bind,hl,Result.andThen_ok,ih]
  congr 1
  apply Array.ext'
  simp only [Array.toList_append,Array.toList_push,Array.toList_extract,List.append_assoc,List.extract_eq_take_drop]
  have e:off+i+(n+1)-(off+i)=(off+(i+1)+n-(off+(i+1)))+1:=by omega
  rw [e,List.drop_eq_getElem_cons (i:=off+i) (by simpa using hlt),List.take_succ_cons]
  simp [Nat.add_assoc]
theorem ex_load_part{ρ:Operand→Value}{o:Oper}{w:World}(ty:TypeId)(x:Operand)(ho:o.op=.load ty x){g off:Nat}(hx:ρ x=.pointer (some ⟨g,off,none⟩)){t:TypeId}{cs vs:Array Value}{fr:Nat×Nat}(hg:w.heap[g]? = some (.cells cs t fr)){d:TypeDesc}(hu:P.underlying ty=some d)(hd:(match d with|.struct _|.array _ _=>true|_=>false)=true)(n:Nat)(hi:(P.info? ty).map (·.size)=some n)(hn:off+n≤cs.size)(hv:cs.extract off (off+n)=vs):(execOp ρ o).run P w=.ok (.value (.agg vs)) w:=by
 subst hv
 have hl:=run_loadCells_part (P:=P) w g off cs t fr hg n 0 #[] (by omega)
 cases hq:P.info? ty with
 | none=>simp [hq] at hi
 | some i =>
  have hs:i.size=n:=by simpa [hq] using hi
  unfold execOp
  have hr:(loadVar ty ⟨g,off,none⟩).run P w=.ok (.agg (cs.extract off (off+n))) w:=by
   cases d<;>first|(simp at hd;done)|(simp [loadVar,loadCells,isAgg,run_underlying hu,sizeOf,typeInfo,hq,hs,hl])
  simp only [ho,hx,Instr.loadAt,Instr.sureAddr,Sem.run_bind,Sem.run_pure,Result.andThen_ok,hr]
theorem ex_store_row{ρ:Operand→Value}{o:Oper}{w:World}(ty:TypeId)(x y:Operand)(ho:o.op=.store ty x y){g:Nat}{cells:Array Value}(hx:ρ x=.pointer (some ⟨g,0,none⟩))(hy:ρ y=.agg cells){t:TypeId}{old:Array Value}(hg:w.heap[g]? = some (.cells old t (0,0)))(hi:(P.info? ty).map (·.size)=some cells.size)(hold:old.size=cells.size)(h1:cells.all (·.oneCell')=true):(execOp ρ o).run P w=.ok .skip (w.setRow g cells):=by
 unfold execOp
 simp only [ho,hx,hy,Instr.storeAt,Instr.sureAddr,Sem.run_bind,Sem.run_pure,Result.andThen_ok,run_storeVar_row w g t ty old cells hg hi hold h1]
theorem ex_store_part{ρ:Operand→Value}{o:Oper}{w:World}(ty:TypeId)(x y:Operand)(ho:o.op=.store ty x y){g off:Nat}{cells:Array Value}(hx:ρ x=.pointer (some ⟨g,off,none⟩))(hy:ρ y=.agg cells){t:TypeId}{old:Array Value}(hg:w.heap[g]? = some (.cells old t (0,0)))(hi:(P.info? ty).map (·.size)=some cells.size)(hold:off+cells.size≤old.size)(h1:cells.all (·.oneCell')=true){vs:Array Value}(hv:(old.toList.take (off+0)++cells.toList++old.toList.drop (off+0+cells.toList.length)).toArray=vs):(execOp ρ o).run P w=.ok .skip (w.setRow g vs):=by
 subst hv
 have hs:=run_storeCells_at (P:=P) g off t cells.toList 0 old w hg (by simp;omega) (fun v hv=>(Array.all_eq_true_iff_forall_mem.1 h1) v (by simpa using hv))
 unfold execOp
 have hr:(storeVar ty ⟨g,off,none⟩ (.agg cells)).run P w=.ok () (w.setRow g (old.toList.take (off+0)++cells.toList++old.toList.drop (off+0+cells.toList.length)).toArray):=by
  cases hq:P.info? ty with
  | none=>simp [hq] at hi
  | some i =>
   have hsz:cells.size=i.size:=by simp [hq] at hi;omega
   simp only [storeVar,sizeOf,typeInfo,Value.cells,Sem.run_bind]
   simp [hq,hsz,hs]
 simp only [ho,hx,hy,Instr.storeAt,Instr.sureAddr,Sem.run_bind,Sem.run_pure,Result.andThen_ok,hr]
theorem setRow_only(w:World)(g:Nat)(c:Array Value):Only g w (w.setRow g c) :=
 ⟨rfl,rfl,rfl,by simp [World.setRow],fun k hk hne=>by simp only [World.setRow,Array.getElem?_modify];rw [if_neg (Ne.symm hne)]⟩
theorem setRow_at{w:World}{g:Nat}{c c': Array Value}{T:TypeId}{fr:Nat×Nat}(h:w.heap[g]? = some (.cells c T fr)):(w.setRow g c').heap[g]? = some (.cells c' T fr):=by
 simp [World.setRow,Array.getElem?_modify,h]
end
end Go.Proofs.YtcdbmjnipaochaaGreat.Rgn
namespace Go.Proofs.YtcdbmjnipaochaaGreat
open Go.RowKit Rgn
def bS(n:Nat):ByteArray:=⟨(bytesOf n).toArray⟩
theorem VP1.rat{q S v w}(h:(RatP q).p S v w):v.oneCell'=true:=by obtain⟨b,rfl⟩:=RatP.isPtr h;rfl
theorem VP1.int{q S v w}(h:(IntP q).p S v w):v.oneCell'=true:=by obtain⟨b,off,rfl⟩:=IntP.isPtr h;rfl
theorem VP1.into{q S v w}(h:(IntO q).p S v w):v.oneCell'=true:=by obtain⟨b,rfl⟩:=IntO.isPtr h;rfl
theorem VP1.ratn{q S v w}(h:(RatN q).p S v w):v.oneCell'=true:=by
 rcases h with⟨rfl,_⟩|h
 ·rfl
 ·exact VP1.rat h
theorem VP1.mag{q S v w}(h:(MagP q).p S v w):v.oneCell'=true:=by obtain⟨a,m,c,rfl⟩:=Mag.isSl h;rfl
theorem results_tmp'{P:Program}{fn:Func}{p:Nat}{tmps:Array Value}{w:World}{v:Value}(hf:fn.results=#[.tmp p])(h:tmps.getD p undef=v):(results fn tmps).run P w=.ok v w:=by
 subst h;simp [results,hf]
theorem results_two{P:Program}{fn:Func}{p q:Nat}{tmps:Array Value}{w:World}{v v': Value}(hf:fn.results=#[.tmp p,.tmp q])(h:tmps.getD p undef=v)(h': tmps.getD q undef=v'):(results fn tmps).run P w=.ok (.tuple #[v,v']) w:=by
 subst h;subst h';simp [results,hf]
theorem Own.keep{B0:Nat}{R0:Nat→Prop}{olds:List (Nat×Nat)}{i j m:Nat}{φ:VP}{u:Nat→Got}{w:World}(hi:(i == j||i == m)=false)(hj:(j == m)=false)(h:(SP.own (B0:=B0) (R0:=R0) (olds:=olds) j m φ).p u w):(SP.own (B0:=B0) (R0:=R0) (olds:=olds) i m φ).p (upd u i ⟨(u j).v,w.heap.size,w.heap.size⟩) w:=by
 obtain⟨h1,b,h2,h3,h4⟩:=h
 simp only [Bool.or_eq_false_iff,beq_eq_false_iff_ne] at hi
 refine⟨?_,b,?_,h3,h4⟩
 ·show (upd u i _ i).v=(upd u i _ m).v
  rw [upd_same,upd_other _ _ (Ne.symm hi.2),h1]
 ·rw [upd_other _ _ (Ne.symm hi.2)];exact h2
theorem SP.tupKeep{B0:Nat}{R0:Nat→Prop}{olds:List (Nat×Nat)}{i j:Nat}{near near': List Nat}{φ:VP}{u:Nat→Got}{w:World}{v:Value}(hij:(near'.contains i||(j == i)||near.contains i)=false)(hs:(j::near').all (fun x=>near.contains x)=true)(h:φ.p (Settled R0 B0 (j::near') u) v w):(SP.val (B0:=B0) (R0:=R0) (olds:=olds) i near φ).p (upd u i ⟨v,w.heap.size,w.heap.size⟩) w:=by
 show φ.p _ (upd u i _ i).v w
 rw [upd_same]
 refine φ.mono (fun k hk hl=>?_) h
 rcases hl with hl|⟨h0,x,hx,hl⟩
 ·exact .inl hl
 ·have hx' : x ∈ near:=by simpa using List.all_eq_true.1 hs x hx
  refine .inr ⟨h0,x,by simp [hx'],?_⟩
  have:x≠i:=fun e=>by subst e;simp [hx'] at hij
  rw [upd_other u _ this];exact hl
theorem IntBlk.of{w:World}{b:Nat}{x y:Value}(h:w.heap[b]? = some (.cells #[x,y] 210 (0,0))):IntBlk w b:=⟨_,_,h⟩
theorem RatBlk.of{w:World}{b:Nat}{x y z t:Value}(h:w.heap[b]? = some (.cells #[x,y,z,t] 212 (0,0))):RatBlk w b:=⟨_,_,_,_,h⟩
theorem Rgn.Base.only0{W w0 w:World}{R0:Nat→Prop}{z:Nat}(h:Base w0.heap.size R0 [] w0 w)(hb:Only z W w0):Only z W w :=
 hb.trans ⟨h.grow.os,h.grow.tape,h.grow.output,h.grow.size,fun k hk _=>h.block k hk (by simp)⟩
theorem Rgn.Base.only{W w0 w:World}{R0:Nat→Prop}{olds:List (Nat×Nat)}{z:Nat}(h:Base w0.heap.size R0 olds w0 w)(hb:Only z W w0)(hn:W.heap.size≤w0.heap.size)(ho:∀ p ∈ olds,W.heap.size≤p.1):Only z W w :=
 ⟨h.grow.os.trans hb.os,h.grow.tape.trans hb.tape,h.grow.output.trans hb.output,Nat.le_trans hb.size h.grow.size,fun k hk hz=>(h.block k (by omega) (fun x i hx=>by have:=ho _ (List.mem_of_getElem? hx);simp at this;omega)).trans (hb.block k hk hz)⟩
theorem Rgn.Only.keep{z b:Nat}{w w': World}{o:Obj}(h:Only z w w')(hb:w.heap[b]? = some o)(hne:b≠z):w'.heap[b]? = some o:=by
 rw [h.block b (lt_of hb) hne];exact hb
theorem Rgn.Only.one{z b:Nat}{w w': World}(h:Only z w w')(hz:Soft w z∨Local w z)(φ:VP){v:Value}(hne:b≠z)(h0:φ.p (·=b) v w):φ.p (·=b) v w' := by
 refine φ.grow ⟨h.os,h.tape,h.output,h.size,fun k hk=>?_⟩ h0
 by_cases e:k=z
 ·subst e
  rcases hz with hz|hz
  ·exact .inr (.inr ⟨hz,fun e=>hne e.symm⟩)
  ·exact .inr (.inl hz)
 ·exact .inl (h.block k hk e)
theorem Rgn.Only.other{z k:Nat}{W w w': World}(h:Only k w w')(hk:W.heap.size≤k)(hn:W.heap.size≤w.heap.size):Only z W w→Only z W w' := fun g =>
 ⟨h.os.trans g.os,h.tape.trans g.tape,h.output.trans g.output,Nat.le_trans g.size h.size,fun j hj hz=>(h.block j (by omega) (by omega)).trans (g.block j hj hz)⟩
theorem only_below'{k:Nat}{W w w': World}(h:Only k w w')(hk:W.heap.size≤k)(hn:W.heap.size≤w.heap.size):Below W.heap.size w w' :=
 ⟨h.os,h.tape,h.output,h.size,fun j hj=>h.block j (by omega) (by omega)⟩
section
variable {P:Program} {ops:Array Oper} {Q:Exit→Act→World→Prop} {rest:List Oper} {o:Oper} {a:Act} {w:World}
theorem wpT_val{v:Value}(hg:o.guard=none)(hr:(execOp a.eval o).run P w=.ok (.value v) w)(h:wpList P ops Q rest (a.put o.dst v) w):wpList P ops Q (o::rest) a w:=by
 refine wpList_plain hg fun K hK=>?_
 simp only [Oper.wp,hr,Oper.upon]
 exact hK _ _ h
theorem wpT_skip{w': World}(hg:o.guard=none)(hr:(execOp a.eval o).run P w=.ok .skip w')(h:wpList P ops Q rest (a.put o.dst undef) w'):wpList P ops Q (o::rest) a w:=by
 refine wpList_plain hg fun K hK=>?_
 simp only [Oper.wp,hr,Oper.upon]
 exact hK _ _ h
theorem wpT_callO{f:FuncId}{args:Array Value}{z:Nat}{φ:VP}(hg:o.guard=none)(hr:(execOp a.eval o).run P w=.ok (.enter f args) w)(hc:Calls P f args w (RetOwn z φ w))(h:∀ w', φ.p (·=z) (.pointer (some ⟨z,0,none⟩)) w'→Only z w w'→wpList P ops Q rest (a.put o.dst (.pointer (some ⟨z,0,none⟩))) w'):wpList P ops Q (o::rest) a w:=by
 refine wpList_plain hg fun K hK=>?_
 simp only [Oper.wp,hr,Oper.upon]
 refine hc.mono fun e w' ⟨he,h1,h2⟩=>?_
 subst he
 exact hK _ _ (h w' h1 h2)
theorem ex_move{ρ:Operand→Value}{x:Operand}(ho:o.op=.move x):(execOp ρ o).run P w=.ok (.value (ρ x)) w:=by
 unfold execOp;simp only [ho];rfl
theorem ex_assign{ρ:Operand→Value}{x:Operand}(ho:o.op=.assign x):(execOp ρ o).run P w=.ok (.value (ρ x)) w:=by
 unfold execOp;simp only [ho];rfl
end
theorem lt_of_bl{n k:Nat}(h:bl n≤32*k):n<4294967296^k:=by
 rw [show (4294967296:Nat)=2^32 by decide,← Nat.pow_mul];exact bl_le.1 h
theorem Mag.wordsK{w:World}{v:Value}{n:Nat}(k:Nat)(h:Mag w v n)(hn:bl n≤32*k):∃ l,Words w v l∧Canon l∧val l=n∧l.length≤k:=by
 obtain⟨l,h1,h2,h3⟩:=h
 refine⟨l,h1,h2,h3,?_⟩
 exact (canon_len h1.bd h2).2 (by rw [h3];exact lt_of_bl hn)
theorem Mag.words{w:World}{v:Value}{n:Nat}(h:Mag w v n)(hn:bl n≤1099511627776):∃ l,Words w v l∧Canon l∧val l=n∧l.length≤34359738368:=h.wordsK 34359738368 (by omega)
theorem Ret.mag{S:Nat→Prop}{n:Nat}{W:World}{e:Ending}{w': World}(h:MagRet n W e w'):Ret (MagP n) S W e w' := by
 obtain⟨v,h1,h2,h3⟩:=h;exact⟨v,h1,h2,h3⟩
theorem bytes_len_le{n k:Nat}(h:bl n≤k):(bytesOf n).length≤k:=by
 rw [bytesOf_len,leB_len_le,show (256:Nat)=2^8 by decide,← Nat.pow_mul]
 exact bl_le.1 (by omega)
section
variable {S:Nat→Prop} {W:World}
end
theorem bS_empty(n:Nat):(bS n).toList.isEmpty=decide (n=0):=by
 have h:(bS n).toList=bytesOf n:=by simp [bS,ByteArray.toList_eq]
 rw [h]
 by_cases hn:n=0
 ·subst hn;simp [bytesOf,leB_zero]
 ·simp [bytesOf,leB_pos hn,hn]
theorem Mag.open{w:World}{v:Value}{n:Nat}(h:Mag w v n):∃ p m c,v=.slice p m c∧(m=0↔n=0)∧m≤9223372036854775807:=by
 obtain⟨l,h1,h2,h3⟩:=h
 obtain⟨p,c,h4,h5,h6⟩:=h1.len
 refine⟨p,l.length,c,h4,?_,by omega⟩
 subst h3
 constructor
 ·intro h;rw [List.length_eq_zero_iff.1 h];rfl
 ·intro h
  rcases Nat.eq_zero_or_pos l.length with h0|h0
  ·exact h0
  ·have:=canon_val_pos h2 (fun e=>by rw [e] at h0;simp at h0);omega
theorem hi_bl(x:Int):bl x.natAbs<hi x:=by unfold hi;omega
theorem sign_0{x:Int}(h:x.natAbs=0):Value.int .i64 0=.int .i64 x.sign:=by rw [show x=0 by omega];rfl
theorem sign_n{x:Int}(h:x<0):Value.int .i64 (-1)=.int .i64 x.sign:=by rw [Int.sign_eq_neg_one_of_neg h]
theorem sign_p{x:Int}(h': ¬ x.natAbs=0)(h:¬ x<0):Value.int .i64 1=.int .i64 x.sign:=by rw [Int.sign_eq_one_of_pos (by omega)]
theorem sgn_neg(b:Bool)(n:Nat):(b&&n != 0)=decide (sgn b n<0):=by
 cases b
 ·simp [sgn]
 ·by_cases h:n=0
  ·subst h;rfl
  ·rw [decide_eq_true (show sgn true n<0 from (show -(n:Int)<0 by omega))];simpa using h
theorem sgn_abs(b:Bool)(n:Nat):(sgn b n).natAbs=n:=by cases b<;>simp [sgn]
theorem sgn_self(x:Int):sgn (decide (x<0)) x.natAbs=x:=by
 unfold sgn;by_cases h:x<0<;>simp [h]<;>omega
theorem sgn_times(x y:Int):sgn (decide (x<0) != decide (y<0)) (x.natAbs*y.natAbs)=x*y:=by
 have h1:=sgn_self x
 have h2:=sgn_self y
 generalize x.natAbs=a at *
 generalize y.natAbs=b at *
 generalize decide (x<0)=c at *
 generalize decide (y<0)=d at *
 subst h1;subst h2
 cases c<;>cases d<;>simp [sgn,Int.neg_mul,Int.mul_neg]
theorem cmp3_ge_le{a b:Nat}(h:(0:Int)≤cmp3 a b):b≤a:=by
 rcases Nat.lt_or_ge a b with h1|h1
 ·rw [cmp3_lt h1] at h;omega
 ·exact h1
theorem cmp3_nge_le{a b:Nat}(h:¬ (0:Int)≤cmp3 a b):a≤b:=by
 rcases Nat.lt_trichotomy a b with h1|h1|h1
 ·omega
 ·omega
 ·rw [cmp3_gt h1] at h;omega
def icmp(x y:Int):Int:=if x<y then -1 else if y<x then 1 else 0
theorem icmp_lt{x y:Int}(h:x<y):icmp x y=-1:=by simp [icmp,h]
theorem icmp_gt{x y:Int}(h:y<x):icmp x y=1:=by unfold icmp;rw [if_neg (by omega),if_pos h]
theorem icmp_eq{x y:Int}(h:x=y):icmp x y=0:=by simp [icmp,h]
theorem sign3(x:Int):(x<0∧x.sign=-1)∨(x=0∧x.sign=0)∨(0<x∧x.sign=1):=by
 rcases Int.lt_trichotomy x 0 with h|h|h
 ·exact .inl ⟨h,Int.sign_eq_neg_one_of_neg h⟩
 ·subst h;exact .inr (.inl ⟨rfl,rfl⟩)
 ·exact .inr (.inr ⟨h,Int.sign_eq_one_of_pos h⟩)
theorem gcd_step{a b g:Nat}(h:Nat.gcd a b=g)(hb:¬ b=0):Nat.gcd b (a%b)=g:=by
 rw [← h,Nat.gcd_comm a b,Nat.gcd_rec b a,Nat.gcd_comm]
theorem gcd_end{a b g:Nat}(h:Nat.gcd a b=g)(hb:b=0):sgn false a=(g:Int):=by
 subst hb;rw [Nat.gcd_zero_right] at h;subst h;rfl
theorem len_gt{m n:Nat}(h:m=0↔n=0):decide (0<m) = !decide (n=0):=by
 by_cases e:n=0
 ·have:=h.2 e;simp [e,this]
 ·have:m≠0:=fun x=>e (h.1 x)
  simp [e];omega
theorem hi_nat(n:Nat):hi (n:Int)=bl n+1:=rfl
theorem inBlock_here{id:Nat}{Q:Exit→Act→World→Prop}{a:Act}{w:World}(h:Q .normal a w):Exit.inBlock id Q (.exit id) a w:=by
 show (if id=id then _ else _)
 rw [if_pos rfl];exact h
theorem inBlock_normal{id:Nat}{Q:Exit→Act→World→Prop}{a:Act}{w:World}(h:Q .normal a w):Exit.inBlock id Q .normal a w:=h
theorem then_exit{i:Nat}{K:Act→World→Prop}{Q:Exit→Act→World→Prop}{a:Act}{w:World}(h:Q (.exit i) a w):Exit.then K Q (.exit i) a w:=h
abbrev U:Value:=undef
abbrev us(n:Nat):List Value:=List.replicate n undef
def sq(u:Nat→Got)(a:Nat):Nat→List Value→List Value
 | 0,l=>l
 | n+1,l=>(u a).v::sq u (a+1) n l
abbrev fr(l:List Value):Act:=⟨l.toArray,[]⟩
instance:Coe Got Value:=⟨Got.v⟩
abbrev pt(b:Nat):Value:=.pointer (some ⟨b,0,none⟩)
abbrev wC(z:Int):Array Value:=#[.bool (decide (z<0)),.string (bS z.natAbs)]
abbrev fC(q:Rat):Array Value:=#[.bool (decide (q.num<0)),.string (bS q.num.natAbs),.bool (decide ((q.den:Int)<0)),.string (bS (q.den:Int).natAbs)]
abbrev gC(c:Cx):Array Value:=#[.bool (decide (c.re.num<0)),.string (bS c.re.num.natAbs),.bool (decide ((c.re.den:Int)<0)),.string (bS (c.re.den:Int).natAbs),.bool (decide (c.im.num<0)),.string (bS c.im.num.natAbs),.bool (decide ((c.im.den:Int)<0)),.string (bS (c.im.den:Int).natAbs)]
abbrev wV(z:Int):Value:=.agg (wC z)
abbrev fV(q:Rat):Value:=.agg (fC q)
abbrev gV(c:Cx):Value:=.agg (gC c)
structure RW where
 n:Bool
 s:ByteArray
 deriving DecidableEq
structure RF where
 a:RW
 b:RW
 deriving DecidableEq
structure RG where
 re:RF
 im:RF
 deriving DecidableEq
@[reducible] def rw(z:Int):RW:=⟨decide (z<0),bS z.natAbs⟩
@[reducible] def rf(q:Rat):RF:=⟨rw q.num,rw (q.den:Int)⟩
@[reducible] def rg(c:Cx):RG:=⟨rf c.re,rf c.im⟩
abbrev rwC(r:RW):Array Value:=#[.bool r.n,.string r.s]
abbrev rfC(r:RF):Array Value:=#[.bool r.a.n,.string r.a.s,.bool r.b.n,.string r.b.s]
abbrev rgC(r:RG):Array Value:=#[.bool r.re.a.n,.string r.re.a.s,.bool r.re.b.n,.string r.re.b.s,.bool r.im.a.n,.string r.im.a.s,.bool r.im.b.n,.string r.im.b.s]
abbrev rwV(r:RW):Value:=.agg (rwC r)
abbrev rfV(r:RF):Value:=.agg (rfC r)
abbrev rgV(r:RG):Value:=.agg (rgC r)
abbrev wwC(g:Int×Int):Array Value:=#[.bool (decide (g.1<0)),.string (bS g.1.natAbs),.bool (decide (g.2<0)),.string (bS g.2.natAbs)]
abbrev wwV(g:Int×Int):Value:=.agg (wwC g)
abbrev zF:Array Value:=#[.bool false,.string ⟨#[]⟩,.bool false,.string ⟨#[]⟩]
abbrev zG:Array Value:=#[.bool false,.string ⟨#[]⟩,.bool false,.string ⟨#[]⟩,.bool false,.string ⟨#[]⟩,.bool false,.string ⟨#[]⟩]
abbrev zI:Array Value:=#[.bool false,.slice none 0 0]
abbrev zQ:Array Value:=#[.bool false,.slice none 0 0,.bool false,.slice none 0 0]
def Z0:Nat→Prop:=fun _=>False
theorem le2{a b c:Nat}(h:a≤b)(g:b≤c):a≤c:=Nat.le_trans h g
def nth{α:Type}:List α→Nat→Option α
 | [],_=>none
 | x::_,0=>some x
 | _::l,k+1=>nth l k
theorem nth_mem{α:Type}:∀ {l:List α} {k:Nat} {x:α},nth l k=some x→x ∈ l
 | _::_,0,_,h=>by cases h;exact List.mem_cons_self
 | _::_,_+1,_,h=>List.mem_cons_of_mem _ (nth_mem h)
theorem nth_get{α:Type}:∀ (l:List α) (k:Nat) {x:α},nth l k=some x→l[k]? = some x:=fun l=>by
 induction l with
 | nil=>intro k x h;cases h
 | cons a l ih =>
  intro k x h
  cases k with
  | zero=>simpa [nth] using h
  | succ k=>simpa using ih k h
def aggB(P:Program)(t:TypeId):Bool:=match P.underlying t with|some (.struct _)|some (.array _ _)=>true|_=>false
theorem aggB_ex{P:Program}{t:TypeId}(h:aggB P t=true):∃ d,P.underlying t=some d∧(match d with|.struct _|.array _ _=>true|_=>false)=true:=by
 unfold aggB at h
 cases e:P.underlying t with
 | none=>rw [e] at h;cases h
 | some d=>refine⟨d,rfl,?_⟩;rw [e] at h;cases d<;>first|rfl|cases h
theorem ar1{ρ:Operand→Value}{x a}(h:ρ x=a):#[x].map ρ=#[a]:=by simp [*]
theorem ar2{ρ:Operand→Value}{x y a b}(h:ρ x=a)(h2:ρ y=b):#[x,y].map ρ=#[a,b]:=by simp [*]
theorem ar3{ρ:Operand→Value}{x y z a b c}(h:ρ x=a)(h2:ρ y=b)(h3:ρ z=c):#[x,y,z].map ρ=#[a,b,c]:=by simp [*]
theorem ar5{ρ:Operand→Value}{x y z t s a b c d e}(h:ρ x=a)(h2:ρ y=b)(h3:ρ z=c)(h4:ρ t=d)(h5:ρ s=e):#[x,y,z,t,s].map ρ=#[a,b,c,d,e]:=by simp [*]
section
variable {P:Program} {ρ:Operand→Value} {o:Oper} {w:World} {V a b:Value} {x y:Operand}
theorem x_mv(hx:ρ x=V)(ho:o.op=.move x:=by rfl):(execOp ρ o).run P w=.ok (.value V) w:=by subst hx;exact ex_move ho
theorem x_as(hx:ρ x=V)(ho:o.op=.assign x:=by rfl):(execOp ρ o).run P w=.ok (.value V) w:=by subst hx;exact ex_assign ho
theorem x_nc{p:Addr}(hx:ρ x=.pointer (some p))(ho:o.op=.nilCheck x:=by rfl):(execOp ρ o).run P w=.ok (.value (.pointer (some p))) w:=by
 unfold execOp;simp only [ho,hx];rfl
theorem x_fa{s:TypeId}{f:Nat}(hx:ρ x=a)(ho:o.op=.fieldAddr s x f:=by rfl)(he:(Instr.fieldAt s a f).run P w=.ok V w:=by kernel_rfl):(execOp ρ o).run P w=.ok (.value V) w:=by
 subst hx;unfold execOp;simp only [ho,Sem.run_bind,he,Result.andThen_ok];rfl
theorem x_ex{k:Nat}{vs:Array Value}(hx:ρ x=.tuple vs)(ho:o.op=.extract x k:=by rfl)(he:nth vs.toList k=some V:=by rfl):(execOp ρ o).run P w=.ok (.value V) w:=by
 have he:vs[k]? = some V:=by simpa using nth_get _ _ he
 unfold execOp;simp only [ho,hx,Instr.extract,he,Sem.run_bind,Sem.run_pure,Result.andThen_ok]
theorem x_not{t:TypeId}{c d:Bool}(hx:ρ x=.bool c)(ho:o.op=.unOp .not t x:=by rfl)(hd:(!c)=d:=by rfl):(execOp ρ o).run P w=.ok (.value (.bool d)) w:=by
 subst hd
 unfold execOp;simp only [ho,hx,Op.unary,Sem.run_bind,Sem.run_pure,Result.andThen_ok]
theorem x_pkT{c:Operand}(hc:ρ c=.bool true)(hx:ρ x=V)(ho:o.op=.pick c x y:=by rfl):(execOp ρ o).run P w=.ok (.value V) w:=by
 subst hx;unfold execOp;simp only [ho,hc];rfl
theorem x_pkF{c:Operand}(hc:ρ c=.bool false)(hx:ρ y=V)(ho:o.op=.pick c x y:=by rfl):(execOp ρ o).run P w=.ok (.value V) w:=by
 subst hx;unfold execOp;simp only [ho,hc];rfl
theorem x_cmp{op:BinOp}{t r:TypeId}{k:IntKind}{n m:Int}(hx:ρ x=.int k n)(hy:ρ y=.int k m)(ho:o.op=.binOp op t x y r:=by rfl)(hk:(op matches .eql|.neq|.lss|.leq|.gtr|.geq)=true:=by rfl)(he:(Op.intCmp op n m).run P w=.ok V w:=by kernel_rfl):(execOp ρ o).run P w=.ok (.value V) w:=by
 unfold execOp
 cases op<;>first|(cases hk;done)|simp [ho,hx,hy,eqGuard,binOp,he,Result.andThen]
theorem x_cm{op:BinOp}{t r:TypeId}{k:IntKind}{n m:Int}{c d:Bool}(hx:ρ x=.int k n)(hy:ρ y=.int k m)(hc:c=d)(ho:o.op=.binOp op t x y r:=by rfl)(hk:(op matches .eql|.neq|.lss|.leq|.gtr|.geq)=true:=by rfl)(he:(Op.intCmp op n m).run P w=.ok (.bool c) w:=by kernel_rfl):(execOp ρ o).run P w=.ok (.value (.bool d)) w:=by subst hc;exact x_cmp hx hy ho hk he
theorem x_beq{t r:TypeId}{c d:Bool}(hx:ρ x=.bool c)(hy:ρ y=.bool d)(ho:o.op=.binOp .eql t x y r:=by rfl)(he:(Op.equal t (.bool c) (.bool d)).run P w=.ok (c == d) w:=by kernel_rfl):(execOp ρ o).run P w=.ok (.value (.bool (c == d))) w:=by
 unfold execOp;simp [ho,hx,hy,eqGuard,binOp,he,Result.andThen]
theorem x_bne{t r:TypeId}{c d:Bool}(hx:ρ x=.bool c)(hy:ρ y=.bool d)(ho:o.op=.binOp .neq t x y r:=by rfl)(he:(Op.equal t (.bool c) (.bool d)).run P w=.ok (c == d) w:=by kernel_rfl):(execOp ρ o).run P w=.ok (.value (.bool (c != d))) w:=by
 unfold execOp;simp [ho,hx,hy,eqGuard,binOp,he,Result.andThen,bne]
theorem x_ldr{ty t:TypeId}{g:Nat}{cs:Array Value}{fr:Nat×Nat}(hx:ρ x=.pointer (some ⟨g,0,none⟩))(hB:w.heap[g]? = some (.cells cs t fr))(ho:o.op=.load ty x:=by rfl)(hd:aggB P ty=true:=by kernel_rfl)(hi:(P.info? ty).map (·.size)=some cs.size:=by kernel_rfl):(execOp ρ o).run P w=.ok (.value (.agg cs)) w:=by
 obtain⟨d,h1,h2⟩:=aggB_ex hd
 exact ex_load_row ty _ ho hx hB h1 (by cases d<;>first|rfl|cases h2) hi
theorem x_ldp{ty t:TypeId}{g off:Nat}{cs vs:Array Value}{fr:Nat×Nat}(hx:ρ x=.pointer (some ⟨g,off,none⟩))(hB:w.heap[g]? = some (.cells cs t fr))(ho:o.op=.load ty x:=by rfl)(hd:aggB P ty=true:=by kernel_rfl)(hi:(P.info? ty).map (·.size)=some vs.size:=by kernel_rfl)(hn:(off+vs.size).ble cs.size=true:=by kernel_rfl)(hv:cs.extract off (off+vs.size)=vs:=by kernel_rfl):(execOp ρ o).run P w=.ok (.value (.agg vs)) w:=by
 obtain⟨d,h1,h2⟩:=aggB_ex hd
 exact ex_load_part ty _ ho hx hB h1 (by cases d<;>first|rfl|cases h2) _ hi (Nat.le_of_ble_eq_true hn) hv
def cellB(P:Program)(t:TypeId):Bool:=match P.underlying t with|none|some (.struct _)|some (.array _ _)=>false|_=>true
theorem run_isAgg_cell{ty:TypeId}(hd:cellB P ty=true):(isAgg ty).run P w=.ok false w:=by
 unfold cellB at hd
 cases e:P.underlying ty with
 | none=>rw [e] at hd;cases hd
 | some d=>rw [e] at hd;cases d<;>first|(cases hd;done)|simp [isAgg,run_underlying e]
theorem x_ldc{ty t:TypeId}{g off:Nat}{cs:Array Value}{fr:Nat×Nat}(hx:ρ x=.pointer (some ⟨g,off,none⟩))(hB:w.heap[g]? = some (.cells cs t fr))(ho:o.op=.load ty x:=by rfl)(hd:cellB P ty=true:=by kernel_rfl)(hv:nth cs.toList off=some V:=by rfl):(execOp ρ o).run P w=.ok (.value V) w:=by
 have h1:=cell_of hB (by simpa using nth_get _ _ hv:cs[off]? = some V)
 have h2:=run_isAgg_cell (w:=w) hd
 unfold execOp
 simp [ho,hx,Instr.loadAt,Instr.sureAddr,loadVar,h2,h1,go_sem]
end
section
variable {P:Program} {ops:Array Oper} {Q:Exit→Act→World→Prop} {B0:Nat} {R0:Nat→Prop} {olds:List (Nat×Nat)} {ws:List Nat} {a0:Act} {w0:World} {F:List (Pl B0 R0 olds)→Prop} {F0:List (Pl w0.heap.size R0 olds)→Prop}
section
variable {rp:List (Nat×Pl B0 R0 olds)} {i:Nat} {u:Nat→Got} {w:World} {ρ:Operand→Value} (h:Here2 ops a0 olds w0 rp i u w ρ)
include h
theorem Rgn.Here2.a(j:Nat){p:Pl B0 R0 olds}(hm:nth rp (i-1-j)=some (j,p):=by rfl)(hb:pre ops i j=true:=by kernel_rfl):p.fact j u w:=h.f (nth_mem hm) hb
theorem Rgn.Here2.g(t j:Nat){V:Value}(hm:nth rp (i-1-j)=some (j,.op none (.eq j V)):=by rfl)(hs:dstIdx ops t=some j:=by kernel_rfl)(hb:pre ops i j=true:=by kernel_rfl):ρ (.tmp t)=V:=h.e t j hs (h.f (nth_mem hm) hb)
theorem Rgn.Here2.r(t j:Nat)(hs:dstIdx ops t=some j:=by kernel_rfl):ρ (.tmp t)=(u j).v:=h.s t j hs
theorem Rgn.Here2.p(t j:Nat){V:Value}(hv:(u j).v=V)(hs:dstIdx ops t=some j:=by kernel_rfl):ρ (.tmp t)=V:=(h.s t j hs).trans hv
theorem Rgn.Here2.z(t:Nat){V:Value}(hv:a0.tmps.getD t undef=V)(hs:dstIdx ops t=none:=by kernel_rfl):ρ (.tmp t)=V:=(h.s0 t hs).trans hv
theorem Rgn.Here2.y(t:Nat)(hs:dstIdx ops t=none:=by kernel_rfl):ρ (.tmp t)=a0.tmps.getD t undef:=h.s0 t hs
theorem Rgn.Here2.v(t:Nat)(V:Value)(hv:a0.tmps.getD t undef=V:=by rfl)(hs:dstIdx ops t=none:=by kernel_rfl):ρ (.tmp t)=V:=(h.s0 t hs).trans hv
theorem Rgn.Here2.c(v:Value):ρ (.const v)=v:=h.const v
theorem Rgn.Here2.bo{k:Nat}{o:Obj}(hk:w0.heap[k]? = some o)(x i': Nat)(hx:olds[x]? = some (k,i'):=by rfl)(hor:(i' == i||pre ops i' i)=true:=by kernel_rfl):w.heap[k]? = some o :=
 h.blkOld hk x i' hx (by rw [Bool.or_eq_true,beq_iff_eq] at hor;exact hor)
end
theorem Rgn.Here2.b{rp:List (Nat×Pl w0.heap.size R0 [])}{i:Nat}{u:Nat→Got}{w:World}{ρ:Operand→Value}(h:Here2 ops a0 [] w0 rp i u w ρ){k:Nat}{o:Obj}(hk:w0.heap[k]? = some o):w.heap[k]? = some o:=h.blk hk (Nat.le_refl _) (no_nil _)
theorem Rgn.Here2.w{rp:List (Nat×Pl w0.heap.size R0 olds)}{i:Nat}{u:Nat→Got}{w:World}{ρ:Operand→Value}(h:Here2 ops a0 olds w0 rp i u w ρ){φ:VP}{v:Value}{b:Nat}(h0:φ.p (·=b) v w0)(hb:R0 b){near:List Nat}:φ.p (Settled R0 w0.heap.size near u) v w:=h.was φ near (VP.at h0 hb)
section
variable {k i:Nat} {rp:List (Nat×Pl B0 R0 olds)} {o:Oper}
theorem Rgn.gq(q:Nat){b:Bool}{d:Tmp}(h:o.guard=some (q,b))(hm:nth rp (i-1-q)=some (q,.op none (.eq q (.bool b))):=by rfl)(hd:dstOf ops q=some d:=by rfl)(hB:(apartB ops&&inB ops a0&&decide (q<ops.size))=true:=by kernel_rfl)(hb:pre ops i q=true:=by kernel_rfl):Gd2 ops a0 w0 rp i o :=
 G1 q b d h hd hB (fun _ _ _ H=>H.f (nth_mem hm) hb)
theorem Rgn.Go2.sk(ho:ops[i]? = some o)(q:Nat){b:Bool}{d:Tmp}(rest:Go2 P ops a0 w0 F k (i+1) ((i,.op none SP.triv)::rp))(hm:nth rp (i-1-q)=some (q,.op none (.eq q (.bool b))):=by rfl)(h:o.guard=some (q,!b):=by rfl)(hd:dstOf ops q=some d:=by rfl)(hB:(apartB ops&&inB ops a0&&decide (q<ops.size))=true:=by kernel_rfl)(hb:pre ops i q=true:=by kernel_rfl):Go2 P ops a0 w0 F (k+1) i rp :=
 Go2.skip ho q b d h hd hB (fun _ _ _ H=>H.f (nth_mem hm) hb) rest
theorem Rgn.Go2.e(ho:ops[i]? = some o){V:Value}(h:∀ {u w ρ},Here2 ops a0 olds w0 rp i u w ρ→(execOp ρ o).run P w=.ok (.value V) w)(rest:Go2 P ops a0 w0 F k (i+1) ((i,.op none (.eq i V))::rp))(hg:Gd2 ops a0 w0 rp i o:=by exact G0 rfl):Go2 P ops a0 w0 F (k+1) i rp:=Go2.eq ho hg (fun _ _ _ H=>h H) rest
theorem Rgn.Go2.mv(ho:ops[i]? = some o)(j:Nat){t:Tmp}{V:Value}(rest:Go2 P ops a0 w0 F k (i+1) ((i,.op none (.eq i V))::rp))(hop:o.op=.move (.tmp t)∨o.op=.assign (.tmp t):=by first|exact .inl rfl|exact .inr rfl)(hm:nth rp (i-1-j)=some (j,.op none (.eq j V)):=by rfl)(hs:dstIdx ops t=some j:=by kernel_rfl)(hb:pre ops i j=true:=by kernel_rfl)(hg:Gd2 ops a0 w0 rp i o:=by exact G0 rfl):Go2 P ops a0 w0 F (k+1) i rp :=
 Go2.eq ho hg (fun _ _ _ H=>by
  have h1:=H.g t j hm hs hb
  rcases hop with hop|hop
  ·exact x_mv h1 hop
  ·exact x_as h1 hop) rest
theorem Rgn.Go2.nc(ho:ops[i]? = some o)(j:Nat){t:Tmp}{p:Addr}(rest:Go2 P ops a0 w0 F k (i+1) ((i,.op none (.eq i (.pointer (some p))))::rp))(hop:o.op=.nilCheck (.tmp t):=by rfl)(hm:nth rp (i-1-j)=some (j,.op none (.eq j (.pointer (some p)))):=by rfl)(hs:dstIdx ops t=some j:=by kernel_rfl)(hb:pre ops i j=true:=by kernel_rfl)(hg:Gd2 ops a0 w0 rp i o:=by exact G0 rfl):Go2 P ops a0 w0 F (k+1) i rp :=
 Go2.eq ho hg (fun _ _ _ H=>x_nc (H.g t j hm hs hb) hop) rest
theorem Rgn.Go2.fj(ho:ops[i]? = some o)(j f:Nat){t g off s q:Nat}(rest:Go2 P ops a0 w0 F k (i+1) ((i,.op none (.eq i (.pointer (some ⟨g,f,none⟩))))::rp))(hop:o.op=.fieldAddr s (.tmp t) q:=by rfl)(hm:nth rp (i-1-j)=some (j,.op none (.eq j (.pointer (some ⟨g,off,none⟩)))):=by rfl)(he:∀ w,(Instr.fieldAt s (.pointer (some ⟨g,off,none⟩)) q).run P w=.ok (.pointer (some ⟨g,f,none⟩)) w:=by intro w;kernel_rfl)(hs:dstIdx ops t=some j:=by kernel_rfl)(hb:pre ops i j=true:=by kernel_rfl)(hg:Gd2 ops a0 w0 rp i o:=by exact G0 rfl):Go2 P ops a0 w0 F (k+1) i rp :=
 Go2.eq ho hg (fun _ w _ H=>x_fa (H.g t j hm hs hb) hop (he w)) rest
theorem Rgn.Go2.fz(ho:ops[i]? = some o)(t f:Nat){g off s q:Nat}(hv:a0.tmps.getD t undef=.pointer (some ⟨g,off,none⟩))(rest:Go2 P ops a0 w0 F k (i+1) ((i,.op none (.eq i (.pointer (some ⟨g,f,none⟩))))::rp))(hop:o.op=.fieldAddr s (.tmp t) q:=by rfl)(he:∀ w,(Instr.fieldAt s (.pointer (some ⟨g,off,none⟩)) q).run P w=.ok (.pointer (some ⟨g,f,none⟩)) w:=by intro w;kernel_rfl)(hs:dstIdx ops t=none:=by kernel_rfl)(hg:Gd2 ops a0 w0 rp i o:=by exact G0 rfl):Go2 P ops a0 w0 F (k+1) i rp :=
 Go2.eq ho hg (fun _ w _ H=>x_fa (H.z t hv hs) hop (he w)) rest
theorem Rgn.Go2.mc(ho:ops[i]? = some o){V:Value}(rest:Go2 P ops a0 w0 F k (i+1) ((i,.op none (.eq i V))::rp))(hop:o.op=.move (.const V)∨o.op=.assign (.const V):=by first|exact .inl rfl|exact .inr rfl)(hg:Gd2 ops a0 w0 rp i o:=by exact G0 rfl):Go2 P ops a0 w0 F (k+1) i rp :=
 Go2.eq ho hg (fun _ _ _ H=>by
  rcases hop with hop|hop
  ·exact x_mv (H.const V) hop
  ·exact x_as (H.const V) hop) rest
theorem Rgn.Go2.mz(ho:ops[i]? = some o)(t:Tmp){V:Value}(hv:a0.tmps.getD t undef=V)(rest:Go2 P ops a0 w0 F k (i+1) ((i,.op none (.eq i V))::rp))(hop:o.op=.move (.tmp t)∨o.op=.assign (.tmp t):=by first|exact .inl rfl|exact .inr rfl)(hs:dstIdx ops t=none:=by kernel_rfl)(hg:Gd2 ops a0 w0 rp i o:=by exact G0 rfl):Go2 P ops a0 w0 F (k+1) i rp :=
 Go2.eq ho hg (fun _ _ _ H=>by
  rcases hop with hop|hop
  ·exact x_mv (H.z t hv hs) hop
  ·exact x_as (H.z t hv hs) hop) rest
theorem Rgn.Go2.al(ho:ops[i]? = some o)(c:Array Value){T:TypeId}(rest:Go2 P ops a0 w0 F k (i+1) ((i,.alloc c T)::rp))(hop:o.op=.alloc T:=by rfl)(hz:((P.info? T).bind (·.zero)).map (·.cells)=some c:=by kernel_rfl)(hg:o.guard=none:=by rfl):Go2 P ops a0 w0 F (k+1) i rp :=
 Go2.alloc ho hg (fun u w ρ H=>by
  cases e:P.info? T with
  | none=>rw [e] at hz;cases hz
  | some q =>
   rw [e] at hz
   cases e2:q.zero with
   | none=>simp [e2] at hz
   | some v =>
    have hc:v.cells=c:=by simpa [e2] using hz
    subst hc
    unfold execOp
    simp [hop,Instr.alloc,zeroValue,typeInfo,e,e2,newVar,newRow,go_sem]) rest
theorem Rgn.Go2.bx(ho:ops[i]? = some o){x:Operand}{v:Value}{c:Array Value}{T:TypeId}(h:∀ {u w ρ},Here2 ops a0 olds w0 rp i u w ρ→ρ x=v)(rest:Go2 P ops a0 w0 F k (i+1) ((i,.alloc c T)::rp))(hop:o.op=.box T x:=by rfl)(hc:v.cells=c:=by rfl)(hg:o.guard=none:=by rfl):Go2 P ops a0 w0 F (k+1) i rp :=
 Go2.alloc ho hg (fun u w ρ H=>by
  subst hc
  have h1:=h H
  unfold execOp
  simp [hop,h1,Instr.box,newVar,newRow,go_sem]) rest
theorem Rgn.Go2.so(ho:ops[i]? = some o)(m:Nat){c cs:Array Value}{T ty:TypeId}{x y:Operand}(h:∀ {u w ρ},Here2 ops a0 olds w0 rp i u w ρ→ρ x=(u m).v∧ρ y=.agg cs)(rest:Go2 P ops a0 w0 F k (i+1) ((i,.op (some m) (.cells m [] (fun _=>cs) T (fun _ _ _=>rfl)))::rp))(hm:nth rp (i-1-m)=some (m,.alloc c T):=by rfl)(hop:o.op=.store ty x y:=by rfl)(hi:(P.info? ty).map (·.size)=some cs.size:=by kernel_rfl)(hsz:c.size=cs.size:=by kernel_rfl)(h1:cs.all (·.oneCell')=true:=by kernel_rfl)(him:(m == i)=false:=by rfl)(hg:o.guard=none:=by rfl):Go2 P ops a0 w0 F (k+1) i rp :=
 Go2.storeOwn ho hg (nth_mem hm) _ (fun u μ ρ b H h0 hB hb=>by
  obtain⟨e1,e2⟩:=h H
  rw [h0] at e1
  refine⟨μ.setRow b cs,ex_store_row ty _ _ hop e1 e2 hb hi hsz h1,fun g=>⟨b,?_,hB,setRow_at hb⟩,setRow_only _ _ _⟩
  rw [upd_other _ _ (by simpa using him)];exact h0) rest
theorem Rgn.Go2.sz(ho:ops[i]? = some o)(q:Nat){z:Nat}{old cs:Array Value}{T ty:TypeId}{x y:Operand}(B:w0.heap[z]? = some (.cells old T (0,0)))(hz:z<B0)(hx:∀ (y i:Nat),olds[y]? = some (z,i)→y=q)(h:∀ {u w ρ},Here2 ops a0 olds w0 rp i u w ρ→ρ x=pt z∧ρ y=.agg cs)(rest:Go2 P ops a0 w0 F k (i+1) ((i,.op none (.old q z [] (fun _=>cs) T (fun _ _ _=>rfl) hz hx))::rp))(hq:olds[q]? = some (z,i):=by rfl)(hop:o.op=.store ty x y:=by rfl)(hl:Loc T=true:=by kernel_rfl)(hi:(P.info? ty).map (·.size)=some cs.size:=by kernel_rfl)(hsz:old.size=cs.size:=by kernel_rfl)(h1:cs.all (·.oneCell')=true:=by kernel_rfl)(hg:o.guard=none:=by rfl):Go2 P ops a0 w0 F (k+1) i rp :=
 Go2.storeOld q z ho hg hq ⟨_,_,_,B,hl⟩ _ (fun u μ ρ H=>by
  obtain⟨e1,e2⟩:=h H
  have hb:=H.blkOld B q i hq (.inl rfl)
  exact⟨μ.setRow z cs,ex_store_row ty _ _ hop e1 e2 hb hi hsz h1,fun g=>setRow_at hb,setRow_only _ _ _⟩) rest
theorem Rgn.Go2.sp(ho:ops[i]? = some o)(q:Nat){z off:Nat}{old cs:Array Value}(vs:Array Value){T ty:TypeId}{x y:Operand}(B:w0.heap[z]? = some (.cells old T (0,0)))(hz:z<B0)(hx:∀ (y i:Nat),olds[y]? = some (z,i)→y=q)(h:∀ {u w ρ},Here2 ops a0 olds w0 rp i u w ρ→ρ x=.pointer (some ⟨z,off,none⟩)∧ρ y=.agg cs)(rest:Go2 P ops a0 w0 F k (i+1) ((i,.op none (.old q z [] (fun _=>vs) T (fun _ _ _=>rfl) hz hx))::rp))(hq:olds[q]? = some (z,i):=by rfl)(hop:o.op=.store ty x y:=by rfl)(hl:Loc T=true:=by kernel_rfl)(hi:(P.info? ty).map (·.size)=some cs.size:=by kernel_rfl)(hsz:(off+cs.size).ble old.size=true:=by kernel_rfl)(h1:cs.all (·.oneCell')=true:=by kernel_rfl)(hv:(old.toList.take (off+0)++cs.toList++old.toList.drop (off+0+cs.toList.length)).toArray=vs:=by kernel_rfl)(hg:o.guard=none:=by rfl):Go2 P ops a0 w0 F (k+1) i rp :=
 Go2.storeOld q z ho hg hq ⟨_,_,_,B,hl⟩ _ (fun u μ ρ H=>by
  obtain⟨e1,e2⟩:=h H
  have hb:=H.blkOld B q i hq (.inl rfl)
  exact⟨μ.setRow z vs,ex_store_part ty _ _ hop e1 e2 hb hi (Nat.le_of_ble_eq_true hsz) h1 hv,fun g=>setRow_at hb,setRow_only _ _ _⟩) rest
theorem Rgn.Go2.mo(ho:ops[i]? = some o)(j:Nat){t m:Nat}{φ:VP}(rest:Go2 P ops a0 w0 F k (i+1) ((i,.op none (.own i m φ))::rp))(hop:o.op=.move (.tmp t)∨o.op=.assign (.tmp t):=by first|exact .inl rfl|exact .inr rfl)(hm:nth rp (i-1-j)=some (j,.op (some m) (.own j m φ))∨nth rp (i-1-j)=some (j,.op none (.own j m φ)):=by first|exact .inl rfl|exact .inr rfl)(hs:dstIdx ops t=some j:=by kernel_rfl)(hb:pre ops i j=true:=by kernel_rfl)(h1:(i == j||i == m)=false:=by rfl)(h2:(j == m)=false:=by rfl)(hg:Gd2 ops a0 w0 rp i o:=by exact G0 rfl):Go2 P ops a0 w0 F (k+1) i rp :=
 Go2.fn ho hg (.own i m φ) (fun u w ρ H=>by
  have f:(SP.own (B0:=B0) (R0:=R0) (olds:=olds) j m φ).p u w:=by
   rcases hm with hm|hm
   ·exact H.f (nth_mem hm) hb
   ·exact H.f (nth_mem hm) hb
  refine⟨(u j).v,?_,Own.keep h1 h2 f⟩
  rcases hop with hop|hop
  ·exact x_mv (H.r t j hs) hop
  ·exact x_as (H.r t j hs) hop) rest
theorem Rgn.Go2.mn(ho:ops[i]? = some o)(j:Nat)(near:List Nat){t:Nat}{near': List Nat}{φ:VP}(rest:Go2 P ops a0 w0 F k (i+1) ((i,.op none (.val i near φ))::rp))(hop:o.op=.move (.tmp t)∨o.op=.assign (.tmp t):=by first|exact .inl rfl|exact .inr rfl)(hm:nth rp (i-1-j)=some (j,.op none (.val j near' φ)):=by rfl)(hs:dstIdx ops t=some j:=by kernel_rfl)(hb:pre ops i j=true:=by kernel_rfl)(h1:(near'.contains i||(j == i)||near.contains i)=false:=by rfl)(h2:(j::near').all (fun x=>near.contains x)=true:=by rfl)(hg:Gd2 ops a0 w0 rp i o:=by exact G0 rfl):Go2 P ops a0 w0 F (k+1) i rp :=
 Go2.fn ho hg (.val i near φ) (fun u w ρ H=>by
  refine⟨(u j).v,?_,SP.keep h1 h2 (H.f (nth_mem hm) hb)⟩
  rcases hop with hop|hop
  ·exact x_mv (H.r t j hs) hop
  ·exact x_as (H.r t j hs) hop) rest
theorem Rgn.Go2.cK(ho:ops[i]? = some o){f:FuncId}{fn:Func}{xs:Array Operand}{ats:Array TypeId}{V:Value}(hfn:P.funcs[f]? = some fn)(h:∀ {u w ρ},Here2 ops a0 olds w0 rp i u w ρ→∃ args,xs.map ρ=args∧Calls P f args w (RetV V w))(rest:Go2 P ops a0 w0 F k (i+1) ((i,.op none (.eq i V))::rp))(hop:o.op=.call { callee:=.value (.func f),args:=xs,argTypes:=ats }:=by rfl)(hn:(fn.name == "runtime.NumGoroutine")=false:=by kernel_rfl)(hb:fn.body.isNone=false:=by kernel_rfl)(hg:Gd2 ops a0 w0 rp i o:=by exact G0 rfl):Go2 P ops a0 w0 F (k+1) i rp :=
 Go2.callK ho hg (fun u w ρ H=>by obtain⟨args,h1,h2⟩:=h H;exact⟨args,ex_call hop (H.func f) hfn hn hb h1,h2⟩) rest
theorem Rgn.Go2.cO(ho:ops[i]? = some o)(m:Nat){c:Array Value}{T:TypeId}{φ:VP}{f:FuncId}{fn:Func}{xs:Array Operand}{ats:Array TypeId}(hfn:P.funcs[f]? = some fn)(h:∀ {u w ρ b},Here2 ops a0 olds w0 rp i u w ρ→(u m).v=pt b→w.heap[b]? = some (.cells c T (0,0))→∃ args,xs.map ρ=args∧Calls P f args w (RetOwn b φ w))(rest:Go2 P ops a0 w0 F k (i+1) ((i,.op (some m) (.own i m φ))::rp))(hm:nth rp (i-1-m)=some (m,.alloc c T):=by rfl)(him:(i == m)=false:=by rfl)(hop:o.op=.call { callee:=.value (.func f),args:=xs,argTypes:=ats }:=by rfl)(hn:(fn.name == "runtime.NumGoroutine")=false:=by kernel_rfl)(hb:fn.body.isNone=false:=by kernel_rfl)(hg:o.guard=none:=by rfl):Go2 P ops a0 w0 F (k+1) i rp :=
 Go2.callO ho hg (nth_mem hm) him φ (fun u w ρ b H h1 h2=>by obtain⟨args,h3,h4⟩:=h H h1 h2;exact⟨args,ex_call hop (H.func f) hfn hn hb h3,h4⟩) rest
end
theorem Rgn.Go2.cR{k i:Nat}{rp:List (Nat×Pl w0.heap.size R0 olds)}{o:Oper}(ho:ops[i]? = some o)(near:List Nat){φ:VP}{f:FuncId}{fn:Func}{xs:Array Operand}{ats:Array TypeId}(hfn:P.funcs[f]? = some fn)(h:∀ {u w ρ},Here2 ops a0 olds w0 rp i u w ρ→∃ args,xs.map ρ=args∧Calls P f args w (Ret φ (Settled R0 w0.heap.size near u) w))(rest:Go2 P ops a0 w0 F0 k (i+1) ((i,.op none (.val i near φ))::rp))(hc:near.contains i=false:=by rfl)(hop:o.op=.call { callee:=.value (.func f),args:=xs,argTypes:=ats }:=by rfl)(hn:(fn.name == "runtime.NumGoroutine")=false:=by kernel_rfl)(hb:fn.body.isNone=false:=by kernel_rfl)(hg:Gd2 ops a0 w0 rp i o:=by exact G0 rfl):Go2 P ops a0 w0 F0 (k+1) i rp :=
 Go2.callR ho hg near hc φ (fun u w ρ H=>by obtain⟨args,h1,h2⟩:=h H;exact⟨args,ex_call hop (H.func f) hfn hn hb h1,h2⟩) rest
section
variable {k i:Nat} {F1:List (Pl w0.heap.size R0 [])→Prop} {rp:List (Nat×Pl w0.heap.size R0 [])} {o:Oper} {ty T g off t:Nat} {cs:Array Value} {f:Nat×Nat}
theorem Rgn.Go2.lc(ho:ops[i]? = some o)(j:Nat){V:Value}(B:w0.heap[g]? = some (.cells cs T f))(rest:Go2 P ops a0 w0 F1 k (i+1) ((i,.op none (.eq i V))::rp))(hop:o.op=.load ty (.tmp t):=by rfl)(hm:nth rp (i-1-j)=some (j,.op none (.eq j (.pointer (some ⟨g,off,none⟩)))):=by rfl)(hv:nth cs.toList off=some V:=by rfl)(hd:cellB P ty=true:=by kernel_rfl)(hs:dstIdx ops t=some j:=by kernel_rfl)(hb:pre ops i j=true:=by kernel_rfl)(hg:Gd2 ops a0 w0 rp i o:=by exact G0 rfl):Go2 P ops a0 w0 F1 (k+1) i rp :=
 Go2.eq ho hg (fun _ _ _ H=>x_ldc (H.g t j hm hs hb) (H.b B) hop hd hv) rest
theorem Rgn.Go2.lp(ho:ops[i]? = some o)(j:Nat)(vs:Array Value)(B:w0.heap[g]? = some (.cells cs T f))(rest:Go2 P ops a0 w0 F1 k (i+1) ((i,.op none (.eq i (.agg vs)))::rp))(hop:o.op=.load ty (.tmp t):=by rfl)(hm:nth rp (i-1-j)=some (j,.op none (.eq j (.pointer (some ⟨g,off,none⟩)))):=by rfl)(hi:(P.info? ty).map (·.size)=some vs.size:=by kernel_rfl)(hn:(off+vs.size).ble cs.size=true:=by kernel_rfl)(hv:cs.extract off (off+vs.size)=vs:=by kernel_rfl)(hd:aggB P ty=true:=by kernel_rfl)(hs:dstIdx ops t=some j:=by kernel_rfl)(hb:pre ops i j=true:=by kernel_rfl)(hg:Gd2 ops a0 w0 rp i o:=by exact G0 rfl):Go2 P ops a0 w0 F1 (k+1) i rp :=
 Go2.eq ho hg (fun _ _ _ H=>x_ldp (H.g t j hm hs hb) (H.b B) hop hd hi hn hv) rest
theorem Rgn.Go2.lr(ho:ops[i]? = some o)(t:Nat)(hz:a0.tmps.getD t undef=.pointer (some ⟨g,0,none⟩))(B:w0.heap[g]? = some (.cells cs T f))(rest:Go2 P ops a0 w0 F1 k (i+1) ((i,.op none (.eq i (.agg cs)))::rp))(hop:o.op=.load ty (.tmp t):=by rfl)(hi:(P.info? ty).map (·.size)=some cs.size:=by kernel_rfl)(hd:aggB P ty=true:=by kernel_rfl)(hs:dstIdx ops t=none:=by kernel_rfl)(hg:Gd2 ops a0 w0 rp i o:=by exact G0 rfl):Go2 P ops a0 w0 F1 (k+1) i rp :=
 Go2.eq ho hg (fun _ _ _ H=>x_ldr (H.z t hz hs) (H.b B) hop hd hi) rest
end
theorem Rgn.Here2.b1{z j:Nat}{rp:List (Nat×Pl w0.heap.size R0 [(z,j)])}{i:Nat}{u:Nat→Got}{w:World}{ρ:Operand→Value}(h:Here2 ops a0 [(z,j)] w0 rp i u w ρ){k:Nat}{o:Obj}(hk:w0.heap[k]? = some o)(hn:z≠k):w.heap[k]? = some o:=h.blk hk (Nat.le_refl _) (no_cons hn (no_nil _))
theorem Rgn.one_inj{z j:Nat}:∀ (y i:Nat),[(z,j)][y]? = some (z,i)→y=0:=fun y i h=>by
 match y,h with
 | 0,_=>rfl
section
variable {n:Nat} {rp:List (Nat×Pl B0 R0 olds)} {u:Nat→Got} {w:World} (h:Done2 ops a0 w0 n rp u w)
include h
theorem Rgn.Done2.a(j:Nat){p:Pl B0 R0 olds}(hm:nth rp (n-1-j)=some (j,p):=by rfl):p.fact j u w:=h.f (nth_mem hm)
theorem Rgn.Done2.nw(m:Nat){c:Array Value}{T:TypeId}(hm:nth rp (n-1-m)=some (m,.alloc c T):=by rfl)(hi:idleB (toPlan rp) m=true:=by kernel_rfl):∃ b,(u m).v=pt b∧B0≤b∧w.heap[b]? = some (.cells c T (0,0)):=by
 obtain⟨b,h1,h2,h3⟩:=h.new (nth_mem hm) hi
 exact⟨b,congrArg Got.v h1,h2,h3⟩
theorem Rgn.Done2.st(j:Nat){m:Nat}{cs:Array Value}{T:TypeId}{l}(hm:nth rp (n-1-j)=some (j,.op (some m) (.cells m [] (fun _=>cs) T l)):=by rfl):∃ b,(u m).v=pt b∧B0≤b∧w.heap[b]? = some (.cells cs T (0,0)):=h.f (nth_mem hm)
theorem Rgn.Done2.ow(j:Nat){o:Option Nat}{m:Nat}{φ:VP}(hm:nth rp (n-1-j)=some (j,.op o (.own j m φ)):=by rfl):∃ b,(u j).v=pt b∧B0≤b∧φ.p (·=b) (pt b) w:=by
 obtain⟨h1,b,h2,h3,h4⟩:(SP.own (B0:=B0) (R0:=R0) (olds:=olds) j m φ).p u w:=h.f (nth_mem hm)
 exact⟨b,h1.trans h2,h3,h4⟩
end
structure Rgn.DoneK (m:Nat) (ops:Array Oper) (a0:Act) (w0:World) (n:Nat) (rp:List (Nat×Pl w0.heap.size R0 olds)) (u:Nat→Got) (w:World):Prop where
 d:Done2 ops a0 w0 n rp u w
 le:m≤w0.heap.size
section
variable {m0 n:Nat} {rp:List (Nat×Pl w0.heap.size R0 olds)} {u:Nat→Got} {w:World} (h:DoneK m0 ops a0 w0 n rp u w)
include h
theorem Rgn.DoneK.a(j:Nat){p:Pl w0.heap.size R0 olds}(hm:nth rp (n-1-j)=some (j,p):=by rfl):p.fact j u w:=h.d.f (nth_mem hm)
theorem Rgn.DoneK.q(j:Nat){V:Value}(hm:nth rp (n-1-j)=some (j,.op none (.eq j V)):=by rfl):(u j).v=V:=h.d.f (nth_mem hm)
theorem Rgn.DoneK.nw(m:Nat){c:Array Value}{T:TypeId}(hm:nth rp (n-1-m)=some (m,.alloc c T):=by rfl)(hi:idleB (toPlan rp) m=true:=by kernel_rfl):∃ b,(u m).v=pt b∧m0≤b∧w.heap[b]? = some (.cells c T (0,0)):=by
 obtain⟨b,h1,h2,h3⟩:=h.d.nw m hm hi
 exact⟨b,h1,Nat.le_trans h.le h2,h3⟩
theorem Rgn.DoneK.st(j:Nat){m:Nat}{cs:Array Value}{T:TypeId}{l}(hm:nth rp (n-1-j)=some (j,.op (some m) (.cells m [] (fun _=>cs) T l)):=by rfl):∃ b,(u m).v=pt b∧m0≤b∧w.heap[b]? = some (.cells cs T (0,0)):=by
 obtain⟨b,h1,h2,h3⟩:=h.d.st j hm
 exact⟨b,h1,Nat.le_trans h.le h2,h3⟩
theorem Rgn.DoneK.ow(j:Nat){o:Option Nat}{m:Nat}{φ:VP}(hm:nth rp (n-1-j)=some (j,.op o (.own j m φ)):=by rfl):∃ b,(u j).v=pt b∧m0≤b∧φ.p (·=b) (pt b) w:=by
 obtain⟨b,h1,h2,h3⟩:=h.d.ow j hm
 exact⟨b,h1,Nat.le_trans h.le h2,h3⟩
theorem Rgn.DoneK.ol(j:Nat){q z:Nat}{cs:Array Value}{T:TypeId}{l hz hx}(hm:nth rp (n-1-j)=some (j,.op none (.old q z [] (fun _=>cs) T l hz hx)):=by rfl):w.heap[z]? = some (.cells cs T (0,0)):=h.d.f (nth_mem hm)
theorem Rgn.DoneK.n1(m:Nat){c:Array Value}{T:TypeId}{k b:Nat}(hk:k<w0.heap.size)(hb:(u m).v=pt b)(hm:nth rp (n-1-m)=some (m,.alloc c T):=by rfl):k≠b:=by
 obtain⟨b', h1,h2,_⟩:=h.d.f (nth_mem hm)
 rw [h1] at hb;cases hb
 exact Nat.ne_of_lt (Nat.lt_of_lt_of_le hk h2)
theorem Rgn.DoneK.lo(m:Nat){c:Array Value}{T:TypeId}{b:Nat}(hb:(u m).v=pt b)(hm:nth rp (n-1-m)=some (m,.alloc c T):=by rfl):w0.heap.size≤b:=by
 obtain⟨b', h1,h2,_⟩:=h.d.f (nth_mem hm)
 rw [h1] at hb;cases hb;exact h2
theorem Rgn.DoneK.n2(i j:Nat){c c': Array Value}{T T': TypeId}{b d:Nat}(hb:(u i).v=pt b)(hc:(u j).v=pt d)(hp:nth rp (n-1-i)=some (i,.alloc c T):=by rfl)(hq:nth rp (n-1-j)=some (j,.alloc c' T'):=by rfl)(hij:(i == j)=false:=by rfl):b≠d:=h.d.ne (nth_mem hp) (nth_mem hq) hij hb hc
theorem Rgn.DoneK.kk{k:Nat}{o:Obj}(hk:w0.heap[k]? = some o)(hno:∀ (x i:Nat),olds[x]? ≠ some (k,i)):w.heap[k]? = some o:=h.d.base.keep hk hno
theorem Rgn.DoneK.o{φ:VP}{b:Nat}{v:Value}(hb:R0 b)(h0:φ.p (·=b) v w0):φ.p (·=b) v w:=h.d.base.one φ hb h0
theorem Rgn.DoneK.gr(φ:VP){v:Value}(h0:φ.p R0 v w0):φ.p R0 v w:=φ.grow h.d.base.growAll h0
end
section
variable {m0 n:Nat} {u:Nat→Got} {w:World}
theorem Rgn.DoneK.rr{S:Nat→Prop}{W:World}{rp:List (Nat×Pl w0.heap.size (Amb S W) olds)}(h:DoneK W.heap.size ops a0 w0 n rp u w)(i:Nat){near:List Nat}{φ:VP}(hm:nth rp (n-1-i)=some (i,.op none (.val i near φ)):=by rfl):φ.p (Amb S W) (u i).v w :=
 h.d.r (nth_mem hm) (fun _ hk=>hk.elim (fun h=>h.1) (fun h2=>.inr (Nat.le_trans h.le h2)))
theorem Rgn.DoneK.rz{z:Nat}{S:Nat→Prop}{W:World}{rp:List (Nat×Pl w0.heap.size (fun k=>Amb S W k∧k≠z) olds)}(h:DoneK W.heap.size ops a0 w0 n rp u w)(i:Nat){near:List Nat}{φ:VP}(hm:nth rp (n-1-i)=some (i,.op none (.val i near φ)):=by rfl):φ.p (Amb S W) (u i).v w :=
 h.d.r (nth_mem hm) (fun _ hk=>hk.elim (fun h=>h.1.1) (fun h2=>.inr (Nat.le_trans h.le h2)))
theorem Rgn.DoneK.k{rp:List (Nat×Pl w0.heap.size R0 [])}(h:DoneK m0 ops a0 w0 n rp u w){k:Nat}{o:Obj}(hk:w0.heap[k]? = some o):w.heap[k]? = some o:=h.d.base.keep0 hk
theorem Rgn.DoneK.k1{z j:Nat}{rp:List (Nat×Pl w0.heap.size R0 [(z,j)])}(h:DoneK m0 ops a0 w0 n rp u w){k:Nat}{o:Obj}(hk:w0.heap[k]? = some o)(hn:z≠k):w.heap[k]? = some o:=h.d.base.keep hk (no_cons hn (no_nil _))
end
section
variable {m0 n:Nat} {X K:Act→World→Prop} {W:World}
theorem Rgn.Go2.dk{rp:List (Nat×Pl w0.heap.size R0 [])}(A:(Nat→Got)→List Value)(hK:∀ a w,X a w→K a w)(hb:Below W.heap.size W w0)(h:∀ u w,DoneK W.heap.size ops a0 w0 n rp u w→Below W.heap.size W w→X (fr (A u)) w)(hA:∀ u,fill ops u ops.size a0=fr (A u):=by intro u;kernel_rfl)(hok:okB ops ws (toPlan rp)=true:=by kernel_rfl):Go2 P ops a0 w0 (Todo P ops (Exit.then K Q) w0.heap.size R0 [] ws a0 w0 0) 0 n rp:=Go2.done (fun u=>fr (A u)) hA hok (fun u w D=>hK _ _ (h u w ⟨D,hb.size⟩ (D.base.bel0 hb hb.size)))
theorem Rgn.Go2.d1{z j:Nat}{rp:List (Nat×Pl w0.heap.size R0 [(z,j)])}(A:(Nat→Got)→List Value)(hK:∀ a w,X a w→K a w)(hb:Below W.heap.size W w0)(hz:W.heap.size≤z)(h:∀ u w,DoneK W.heap.size ops a0 w0 n rp u w→Below W.heap.size W w→X (fr (A u)) w)(hA:∀ u,fill ops u ops.size a0=fr (A u):=by intro u;kernel_rfl)(hok:okB ops ws (toPlan rp)=true:=by kernel_rfl):Go2 P ops a0 w0 (Todo P ops (Exit.then K Q) w0.heap.size R0 [(z,j)] ws a0 w0 0) 0 n rp:=Go2.done (fun u=>fr (A u)) hA hok (fun u w D=>hK _ _ (h u w ⟨D,hb.size⟩ (D.base.bel hb hb.size (fun p hp=>by simp only [List.mem_singleton] at hp;subst hp;exact hz))))
theorem Rgn.Go2.dg{rp:List (Nat×Pl w0.heap.size R0 olds)}(A:(Nat→Got)→List Value)(hK:∀ a w,X a w→K a w)(hb:m0≤w0.heap.size)(h:∀ u w,DoneK m0 ops a0 w0 n rp u w→X (fr (A u)) w)(hA:∀ u,fill ops u ops.size a0=fr (A u):=by intro u;kernel_rfl)(hok:okB ops ws (toPlan rp)=true:=by kernel_rfl):Go2 P ops a0 w0 (Todo P ops (Exit.then K Q) w0.heap.size R0 olds ws a0 w0 0) 0 n rp:=Go2.done (fun u=>fr (A u)) hA hok (fun u w D=>hK _ _ (h u w ⟨D,hb⟩))
theorem Rgn.Go2.dd{rp:List (Nat×Pl w0.heap.size R0 olds)}(A:(Nat→Got)→Act)(hb:m0≤w0.heap.size)(h:∀ u w,DoneK m0 ops a0 w0 n rp u w→Q .normal (A u) w)(hA:∀ u,fill ops u ops.size a0=A u:=by intro u;kernel_rfl)(hok:okB ops ws (toPlan rp)=true:=by kernel_rfl):Go2 P ops a0 w0 (Todo P ops Q w0.heap.size R0 olds ws a0 w0 0) 0 n rp:=Go2.done A hA hok (fun u w D=>h u w ⟨D,hb⟩)
theorem Rgn.Go2.dT{m:Nat}{rp:List (Nat×Pl w0.heap.size R0 olds)}(A:(Nat→Got)→List Value)(hb:m0≤w0.heap.size)(tail:List Oper)(htail:ops.toList.drop n=tail)(h:∀ u w,DoneK m0 ops a0 w0 n rp u w→wpList P ops Q tail (fr (A u)) w)(hA:∀ u,(∀ t,n≤t→u t=start ops a0 t)→fill ops u ops.size a0=fr (A u):=by intro u h;kernel_rfl)(hok:okB ops ws (toPlan rp++List.replicate m (.op none ⟨fun _ _=>True,[],[],[],[],fun _ _ _ _ _=>trivial,fun _ _ _ _ _=>trivial⟩))=true:=by kernel_rfl):Go2 P ops a0 w0 (TodoT P ops Q w0.heap.size R0 olds ws a0 w0 m 0) 0 n rp:=Go2.doneT (fun u=>fr (A u)) hA hok tail htail (fun u w D=>h u w ⟨D,hb⟩)
end
section
variable {id:Nat} {c:Code}
theorem Rgn.gd(n:Nat)(R0:Nat→Prop)(h:∀ K:Act→World→Prop,(∀ a w,c.wp P Q a w→K a w)→Go2 P ops a0 w0 (Todo P ops (Exit.then K Q) w0.heap.size R0 [] [] a0 w0 0) n 0 [])(hm:P.follows .mixedOrders=true:=by kernel_rfl)(hn:ops.size=n:=by rfl)(hin:inB ops a0=true:=by kernel_rfl):(Code.seq (Code.region id ops true) c).wp P Q a0 w0:=wp_seq_k fun K hK=>go2_drawn hm n hn R0 [] [] (Olds.nil _) hin (h K hK)
theorem Rgn.gs(n:Nat)(R0:Nat→Prop)(h:∀ K:Act→World→Prop,(∀ a w,c.wp P Q a w→K a w)→Go2 P ops a0 w0 (Todo P ops (Exit.then K Q) w0.heap.size R0 [] [] a0 w0 0) n 0 [])(hn:ops.size=n:=by rfl)(hin:inB ops a0=true:=by kernel_rfl):(Code.seq (Code.region id ops false) c).wp P Q a0 w0:=wp_seq_k fun K hK=>go2_seq n hn R0 [] [] (Olds.nil _) hin (h K hK)
theorem Rgn.gd1(n:Nat)(R0:Nat→Prop)(j:Nat){z:Nat}{o:Obj}(hz:w0.heap[z]? = some o)(h:∀ K:Act→World→Prop,(∀ a w,c.wp P Q a w→K a w)→Go2 P ops a0 w0 (Todo P ops (Exit.then K Q) w0.heap.size R0 [(z,j)] [j] a0 w0 0) n 0 [])(hm:P.follows .mixedOrders=true:=by kernel_rfl)(hn:ops.size=n:=by rfl)(hin:inB ops a0=true:=by kernel_rfl):(Code.seq (Code.region id ops true) c).wp P Q a0 w0:=wp_seq_k fun K hK=>go2_drawn hm n hn R0 _ _ (Olds.one (lt_of hz)) hin (h K hK)
theorem Rgn.gs1(n:Nat)(R0:Nat→Prop)(j:Nat){z:Nat}{o:Obj}(hz:w0.heap[z]? = some o)(h:∀ K:Act→World→Prop,(∀ a w,c.wp P Q a w→K a w)→Go2 P ops a0 w0 (Todo P ops (Exit.then K Q) w0.heap.size R0 [(z,j)] [j] a0 w0 0) n 0 [])(hn:ops.size=n:=by rfl)(hin:inB ops a0=true:=by kernel_rfl):(Code.seq (Code.region id ops false) c).wp P Q a0 w0:=wp_seq_k fun K hK=>go2_seq n hn R0 _ _ (Olds.one (lt_of hz)) hin (h K hK)
end
section
variable {k i:Nat} {z:Nat} {F1:List (Pl w0.heap.size R0 [(z,i)])→Prop} {rp:List (Nat×Pl w0.heap.size R0 [(z,i)])} {o:Oper} {old cs:Array Value} {T ty:TypeId} {x y:Operand}
theorem Rgn.Go2.s1(ho:ops[i]? = some o)(B:w0.heap[z]? = some (.cells old T (0,0)))(h:∀ {u w ρ},Here2 ops a0 [(z,i)] w0 rp i u w ρ→ρ x=pt z∧ρ y=.agg cs)(rest:Go2 P ops a0 w0 F1 k (i+1) ((i,.op none (.old 0 z [] (fun _=>cs) T (fun _ _ _=>rfl) (lt_of B) one_inj))::rp))(hop:o.op=.store ty x y:=by rfl)(hl:Loc T=true:=by kernel_rfl)(hi:(P.info? ty).map (·.size)=some cs.size:=by kernel_rfl)(hsz:old.size=cs.size:=by kernel_rfl)(h1:cs.all (·.oneCell')=true:=by kernel_rfl)(hg:o.guard=none:=by rfl):Go2 P ops a0 w0 F1 (k+1) i rp :=
 Go2.sz ho 0 B (lt_of B) one_inj h rest rfl hop hl hi hsz h1 hg
end
end
section
variable {P:Program} {fn:Func} {W w:World} {tmps:Array Value} {V v v' : Value} {p q ty ty' g g' : Nat} {t t' : TypeId} {cs cs' : Array Value} {fr' fr'' : Nat×Nat}
theorem b0(W:World):Below W.heap.size W W:=Below.refl _ _
theorem rt(hf:fn.results=#[.tmp p])(h:tmps.getD p undef=v)(hv:v=V)(hb:Below W.heap.size W w):bodyPost P fn (RetV V W) .ret ⟨tmps,[]⟩ w :=
 ret_ok rfl (results_tmp' hf h) (RetV.mk (congrArg Ending.returned hv) hb)
theorem rr(hf:fn.results=#[.cell p ty])(h:tmps.getD p undef=pt g)(hB:w.heap[g]? = some (.cells cs t fr'))(hv:Value.agg cs=V)(hb:Below W.heap.size W w)(hd:aggB P ty=true:=by kernel_rfl)(hi:(P.info? ty).map (·.size)=some cs.size:=by kernel_rfl):bodyPost P fn (RetV V W) .ret ⟨tmps,[]⟩ w:=by
 obtain⟨d,h1,h2⟩:=aggB_ex hd
 exact ret_ok rfl (results_row hf h hB h1 (by cases d<;>first|rfl|cases h2) hi) (RetV.mk (congrArg Ending.returned hv) hb)
end
theorem nb{w:World}{k b:Nat}{o:Obj}(h:w.heap[k]? = some o)(hb:w.heap.size≤b):k≠b:=Nat.ne_of_lt (Nat.lt_of_lt_of_le (lt_of h) hb)
end Go.Proofs.YtcdbmjnipaochaaGreat
namespace Go.Proofs.YtcdbmjnipaochaaGreat
open Go.RowKit Rgn
theorem two_words(N:Nat)(h:N<18446744073709551616):Bd [N%4294967296,N/4294967296]∧val [N%4294967296,N/4294967296]=N:=by
 refine⟨fun x hx=>?_,?_⟩
 ·simp only [List.mem_cons,List.not_mem_nil,or_false] at hx
  omega
 ·simp only [val];omega
theorem Words.two{w:World}{x y:Nat}(hx:x<4294967296)(hy:y<4294967296):Words (w.alloc (.cells #[.int .u32 (x:Int),.int .u32 (y:Int)] 315)) (.slice (some ⟨w.heap.size,0,none⟩) 2 2) [x,y]:=by
 refine .inr ⟨_,0,2,_,_,rfl,(MapKept.heap_alloc w _).1,by simp,by omega,fun i z hi=>?_⟩
 match i,hi with
 | 0,hi=>simp at hi;subst hi;exact⟨rfl,hx⟩
 | 1,hi=>simp at hi;subst hi;exact⟨rfl,hy⟩
theorem rOf{W:World}(n:Int)(h1:-9223372036854775808≤n)(h2:n≤9223372036854775807):Calls Tryz.prog 215 #[.int .i64 n] W (RetV (.agg #[.bool (decide (n<0)),.string (bS n.natAbs)]) W):=by
 obtain⟨hb2,hv2⟩:=two_words n.natAbs (by omega)
 have hlo:(n.natAbs:Int)%4294967296=((n.natAbs%4294967296:Nat):Int):=by omega
 have hhi:(n.natAbs:Int)/4294967296=((n.natAbs/4294967296:Nat):Int):=by omega
 have hlo4:n.natAbs%4294967296<4294967296:=by omega
 have hhi4:n.natAbs/4294967296<4294967296:=by omega
 have hw1:IntKind.wrap .u32 ((n.natAbs%4294967296:Nat):Int)=((n.natAbs%4294967296:Nat):Int):=IntWalk.u32_in _ (by omega)
 have hw2:IntKind.wrap .u32 ((n.natAbs/4294967296:Nat):Int)=((n.natAbs/4294967296:Nat):Int):=IntWalk.u32_in _ (by omega)
 have hN8:n.natAbs<18446744073709551616:=by omega
 by_cases hn:n<0
 ·have hc1:IntKind.wrap .u64 n=n+18446744073709551616:=by rw [IntKind.wrap_u64];omega
  have hc2:IntKind.wrap .u64 (-(n+18446744073709551616))=(n.natAbs:Int):=by rw [IntKind.wrap_u64];omega
  have hN0:(n.natAbs != 0)=true:=by rw [bne_iff_ne];omega
  have hlt:decide (n<0)=true:=decide_eq_true hn
  generalize n.natAbs=N at *
  generalize N%4294967296=lo at *
  generalize N/4294967296=hi at *
  have hb8:lo<4294967296∧hi<4294967296:=⟨hlo4,hhi4⟩
  have hW:=Words.two (w:=W.alloc (.cells #[.bool false,.string ⟨#[]⟩] 23)) hlo4 hhi4
  have HM:=refmade_any true _ _ _ hW (by simp)
  rw [hv2] at HM
  have hsz:(W.alloc (.cells #[.bool false,.string ⟨#[]⟩] 23)).heap.size=W.heap.size+1:=by simp
  rw [hsz] at HM
  have hR0:(W.alloc (.cells #[.bool false,.string ⟨#[]⟩] 23)).heap[W.heap.size]? = some (.cells #[.bool false,.string ⟨#[]⟩] 23 (0,0)):=(MapKept.heap_alloc W _).1
  have hbel0:Below W.heap.size W ((W.alloc (.cells #[.bool false,.string ⟨#[]⟩] 23)).alloc (.cells #[.int .u32 lo,.int .u32 hi] 315)):=(Below.alloc (Below.refl _ _) (Nat.le_refl _) _).alloc (by simp) _
  generalize hw0:W.alloc (.cells #[.bool false,.string ⟨#[]⟩] 23)=w0 at *
  have hR1:(w0.alloc (.cells #[.int .u32 lo,.int .u32 hi] 315)).heap[W.heap.size]? = some (.cells #[.bool false,.string ⟨#[]⟩] 23 (0,0)):=by
   rw [Below.heap_alloc _ _ _ (by rw [hsz];omega)];exact hR0
  go_enter Tryz.func215,Tryz.ntmps215
  go_wp2_with fail
  have hw0' := hw0
  try rw [hw0']
  go_call HM as _ w3 ⟨rfl,hb3⟩
  have hR3:w3.heap[W.heap.size]? = some (.cells #[.bool false,.string ⟨#[]⟩] 23 (0,0)):=by
   rw [hb3.block _ (by exact lt_of hR1)];exact hR1
  have hf1:w3.frozen? ⟨W.heap.size,0,none⟩=false:=frozen_of hR3
  have hf2:w3.frozen? ⟨W.heap.size,1,none⟩=false:=frozen_of hR3
  have hcc1:=cell_of (off:=0) hR3 rfl
  have hcc2:=cell_of (off:=1) hR3 rfl
  have hbel3:Below W.heap.size W w3:=hbel0.trans (hb3.mono (by simp [hsz];omega))
  clear hb3 hbel0 hR1 hR0 HM hW hw0 hsz hb2 hv2 hlo hhi hb8
  simp only [whoV,strV]
  go_wp2_with fail
  have hR4:=setCell_at (o:=0) (v:=.bool true) hR3
  have hR5:=setCell_at (o:=1) (v:=.string ⟨(bytesOf N).toArray⟩) hR4
  refine ret_ok rfl (results_row rfl rfl hR5 Tryz.underlying23 rfl (by kernel_rfl)) (RetV.mk ?_ ((hbel3.setCell (Nat.le_refl _) _).setCell (by simp) _))
  rw [hlt];rfl
 ·have hc1:IntKind.wrap .u64 n=(n.natAbs:Int):=by rw [IntKind.wrap_u64];omega
  have hlt:decide (n<0)=false:=decide_eq_false hn
  generalize n.natAbs=N at *
  generalize N%4294967296=lo at *
  generalize N/4294967296=hi at *
  have hb8:lo<4294967296∧hi<4294967296:=⟨hlo4,hhi4⟩
  have hW:=Words.two (w:=W.alloc (.cells #[.bool false,.string ⟨#[]⟩] 23)) hlo4 hhi4
  have HM:=refmade_any false _ _ _ hW (by simp)
  rw [hv2] at HM
  have hsz:(W.alloc (.cells #[.bool false,.string ⟨#[]⟩] 23)).heap.size=W.heap.size+1:=by simp
  rw [hsz] at HM
  have hR0:(W.alloc (.cells #[.bool false,.string ⟨#[]⟩] 23)).heap[W.heap.size]? = some (.cells #[.bool false,.string ⟨#[]⟩] 23 (0,0)):=(MapKept.heap_alloc W _).1
  have hbel0:Below W.heap.size W ((W.alloc (.cells #[.bool false,.string ⟨#[]⟩] 23)).alloc (.cells #[.int .u32 lo,.int .u32 hi] 315)):=(Below.alloc (Below.refl _ _) (Nat.le_refl _) _).alloc (by simp) _
  generalize hw0:W.alloc (.cells #[.bool false,.string ⟨#[]⟩] 23)=w0 at *
  have hR1:(w0.alloc (.cells #[.int .u32 lo,.int .u32 hi] 315)).heap[W.heap.size]? = some (.cells #[.bool false,.string ⟨#[]⟩] 23 (0,0)):=by
   rw [Below.heap_alloc _ _ _ (by rw [hsz];omega)];exact hR0
  go_enter Tryz.func215,Tryz.ntmps215
  go_wp2_with fail
  have hw0' := hw0
  try rw [hw0']
  go_call HM as _ w3 ⟨rfl,hb3⟩
  have hR3:w3.heap[W.heap.size]? = some (.cells #[.bool false,.string ⟨#[]⟩] 23 (0,0)):=by
   rw [hb3.block _ (by exact lt_of hR1)];exact hR1
  have hf1:w3.frozen? ⟨W.heap.size,0,none⟩=false:=frozen_of hR3
  have hf2:w3.frozen? ⟨W.heap.size,1,none⟩=false:=frozen_of hR3
  have hcc1:=cell_of (off:=0) hR3 rfl
  have hcc2:=cell_of (off:=1) hR3 rfl
  have hbel3:Below W.heap.size W w3:=hbel0.trans (hb3.mono (by simp [hsz];omega))
  clear hb3 hbel0 hR1 hR0 HM hW hw0 hsz hb2 hv2 hlo hhi hb8
  simp only [whoV,strV]
  go_wp2_with fail
  have hR4:=setCell_at (o:=0) (v:=.bool (false&&N != 0)) hR3
  have hR5:=setCell_at (o:=1) (v:=.string ⟨(bytesOf N).toArray⟩) hR4
  refine ret_ok rfl (results_row rfl rfl hR5 Tryz.underlying23 rfl (by kernel_rfl)) (RetV.mk ?_ ((hbel3.setCell (Nat.le_refl _) _).setCell (by simp) _))
  rw [hlt];rfl
end Go.Proofs.YtcdbmjnipaochaaGreat
namespace Go.Proofs.YtcdbmjnipaochaaGreat
open Go.RowKit Rgn
theorem hi_num(q:Rat):hi q.num≤ht q:=by unfold hi ht;omega
theorem hi_den(q:Rat):hi (q.den:Int)≤ht q:=by
 have h:((q.den:Int)).natAbs=q.den:=rfl
 unfold hi ht;rw [h];omega
theorem hi_gcd{x y:Int}(hy:y≠0):hi (Int.gcd x y:Int)≤hi y:=by
 have h:=Int.gcd_le_natAbs_right x hy
 have h2:((Int.gcd x y:Int)).natAbs=Int.gcd x y:=rfl
 unfold hi;rw [h2];have:=bl_mono h;omega
theorem gcd_ne{x y:Int}(hy:y≠0):(Int.gcd x y:Int)≠0:=by
 intro h
 have:Int.gcd x y=0:=by omega
 exact hy (Int.gcd_eq_zero_iff.1 this).2
abbrev FR(q:Rat):Value:=.agg #[.bool (decide (q.num<0)),.string (bS q.num.natAbs),.bool (decide ((q.den:Int)<0)),.string (bS (q.den:Int).natAbs)]
abbrev WW(a b:Int):Value:=.agg #[.bool (decide (a<0)),.string (bS a.natAbs),.bool (decide (b<0)),.string (bS b.natAbs)]
theorem ww_eq{a b:Int}{q:Rat}(h:a=q.num)(h': b=(q.den:Int)):WW a b=FR q:=by subst h;subst h';rfl
theorem fr_int(n:Int):WW n 1=FR (n:Rat):=ww_eq (Rat.num_intCast n).symm (by rw [Rat.den_intCast];rfl)
theorem fr_plus(x y:Rat):Rat.divInt (x.num*(y.den:Int)+y.num*(x.den:Int)) ((x.den:Int)*(y.den:Int))=x+y:=by
 rw [Rat.add_def', ← Rat.divInt_ofNat,Int.natCast_mul]
theorem fr_times(x y:Rat):Rat.divInt (x.num*y.num) ((x.den:Int)*(y.den:Int))=x*y:=by
 rw [Rat.mul_def', ← Rat.divInt_ofNat,Int.natCast_mul]
theorem den_ne(q:Rat):(q.den:Int)≠0:=by have:=q.den_pos;omega
theorem den_mul_ne(p q:Rat):(p.den:Int)*(q.den:Int)≠0:=Int.mul_ne_zero (den_ne p) (den_ne q)
theorem hc_mul(x y:Cx):ht (x.mul y).re≤ht x.re+ht x.im+ht y.re+ht y.im∧ht (x.mul y).im≤ht x.re+ht x.im+ht y.re+ht y.im:=by
 have h1:=ht_mul x.re y.re;have h2:=ht_mul x.im y.im;have h3:=ht_mul x.re y.im;have h4:=ht_mul x.im y.re
 have h5:=ht_sub (x.re*y.re) (x.im*y.im)
 have h6:=ht_add (x.re*y.im) (x.im*y.re)
 exact⟨by show ht (x.re*y.re-x.im*y.im)≤_;omega,by show ht (x.re*y.im+x.im*y.re)≤_;omega⟩
theorem hc_norm(x:Cx):ht x.norm≤2*(ht x.re+ht x.im):=by
 have h1:=ht_mul x.re x.re;have h2:=ht_mul x.im x.im
 have h5:=ht_add (x.re*x.re) (x.im*x.im)
 show ht (x.re*x.re+x.im*x.im)≤_;omega
theorem hc_conj(x:Cx):ht x.conj.re=ht x.re∧ht x.conj.im=ht x.im:=⟨rfl,ht_neg x.im⟩
theorem hc_neg(x:Cx):ht x.neg.re=ht x.re∧ht x.neg.im=ht x.im:=⟨ht_neg x.re,ht_neg x.im⟩
theorem hc_scale(x:Cx)(r:Rat):ht (x.scale r).re≤ht x.re+ht r∧ht (x.scale r).im≤ht x.im+ht r:=⟨ht_mul _ _,ht_mul _ _⟩
theorem hc_add(x y:Cx):ht (x.add y).re≤ht x.re+ht y.re∧ht (x.add y).im≤ht x.im+ht y.im:=⟨ht_add _ _,ht_add _ _⟩
theorem hc_sub(x y:Cx):ht (x.sub y).re≤ht x.re+ht y.re∧ht (x.sub y).im≤ht x.im+ht y.im:=⟨ht_sub _ _,ht_sub _ _⟩
def Cx.zero(x:Cx):Bool:=decide (x.re=0)&&decide (x.im=0)
end Go.Proofs.YtcdbmjnipaochaaGreat
namespace Go.Proofs.YtcdbmjnipaochaaGreat
open Go.RowKit Rgn
variable {S:Nat→Prop} {W:World}
theorem fInt(n:Int)(p0:-9223372036854775808≤n)(p1:n≤9223372036854775807):Calls Tryz.prog 81 #[.int .i64 n] W (RetV (fV (n:Rat)) W):=by
 have bel:=b0 W
 go_enter Tryz.func81,Tryz.ntmps81
 refine gs 1 (Amb Z0 W) fun _ K1=>?_
 refine .al rfl zF ?_
 refine .dk (fun u=>.int .i64 n::U::u 0::us 4) K1 bel fun u1 w1 D bel=>?_
 obtain⟨b2,E1_0,A2,B2⟩:=D.nw 0
 clear D
 refine gs1 5 (Amb Z0 W) 4 B2 fun _ K3=>?_
 refine .mz rfl 0 (V:=.int .i64 n) rfl ?_
 refine .cK rfl Tryz.func215 (fun H=>⟨_,ar1 (H.g 3 0),rOf _ (by omega) (by omega)⟩) ?_
 refine .cK rfl Tryz.func215 (fun H=>⟨_,ar1 (H.c (.int .i64 1)),rOf _ (by omega) (by omega)⟩) ?_
 refine .e rfl (V:=rfV (RF.mk (rw n) (rw (1:Int)))) (fun H=>by have e4:=H.g 4 1;have e5:=H.g 5 2;clear H;go_simp) ?_
 refine .s1 rfl B2 (fun H=>⟨H.z 2 E1_0,H.g 6 3⟩) ?_
 refine .d1 (fun u=>.int .i64 n::U::u1 0::sq u 0 4 []) K3 bel A2 fun u2 w2 D bel=>?_
 replace B2:=D.ol 4
 clear D
 exact wp_ret (rr rfl E1_0 B2 (fr_int n) bel)
theorem cInt(a b:Int)(p0:-9223372036854775808≤a)(p1:a≤9223372036854775807)(p2:-9223372036854775808≤b)(p3:b≤9223372036854775807):Calls Tryz.prog 99 #[.int .i64 a,.int .i64 b] W (RetV (gV (Cx.ofInt a b)) W):=by
 have bel:=b0 W
 go_enter Tryz.func99,Tryz.ntmps99
 refine gs 1 (Amb Z0 W) fun _ K1=>?_
 refine .al rfl zG ?_
 refine .dk (fun u=>.int .i64 a::.int .i64 b::U::U::u 0::us 5) K1 bel fun u1 w1 D bel=>?_
 obtain⟨b2,E1_0,A2,B2⟩:=D.nw 0
 clear D
 refine gs1 6 (Amb Z0 W) 5 B2 fun _ K3=>?_
 refine .mz rfl 0 (V:=.int .i64 a) rfl ?_
 refine .cK rfl Tryz.func81 (fun H=>⟨_,ar1 (H.g 5 0),fInt _ (by omega) (by omega)⟩) ?_
 refine .mz rfl 1 (V:=.int .i64 b) rfl ?_
 refine .cK rfl Tryz.func81 (fun H=>⟨_,ar1 (H.g 7 2),fInt _ (by omega) (by omega)⟩) ?_
 refine .e rfl (V:=gV ⟨(a:Rat),(b:Rat)⟩) (fun H=>by have e6:=H.g 6 1;have e8:=H.g 8 3;clear H;go_simp) ?_
 refine .s1 rfl B2 (fun H=>⟨H.z 4 E1_0,H.g 9 4⟩) ?_
 refine .d1 (fun u=>.int .i64 a::.int .i64 b::U::U::u1 0::sq u 0 5 []) K3 bel A2 fun u2 w2 D bel=>?_
 replace B2:=D.ol 5
 clear D
 exact wp_ret (rr rfl E1_0 B2 rfl bel)
end Go.Proofs.YtcdbmjnipaochaaGreat
namespace Go.Proofs.YtcdbmjnipaochaaGreat
open Go.RowKit Rgn
theorem reV{P:Program}{f:FuncId}{args:Array Value}{w w': World}{v v': Value}(h:v=v')(g:Calls P f args w (RetV v w')):Calls P f args w (RetV v' w'):=h ▸ g
def wformed(r:RW):Bool:=match r.s.data.toList with
 | []=>!r.n
 | c::_=>c != 0
theorem wformed_ex{r:RW}(h:wformed r=true):∃ z,r=rw z:=by
 obtain⟨n,s⟩:=r
 refine⟨sgn n (natB s.data.toList),?_⟩
 have hf:formB s.data.toList:=by
  unfold wformed at h
  unfold formB
  cases e:s.data.toList with
  | nil=>simp
  | cons c t=>simp only [e] at h;simpa using h
 have hs:bS (sgn n (natB s.data.toList)).natAbs=s:=by
  rw [sgn_abs,bS,bytesOf_natB hf,Array.toArray_toList]
 rw [rw,hs,← sgn_neg]
 congr 1
 cases n
 ·rfl
 ·unfold wformed at h
  cases e:s.data.toList with
  | nil=>simp only [e] at h;exact absurd h (by decide)
  | cons c t =>
   have:=natB_ge hf (by rw [e];simp)
   rw [e] at this
   have h2:0<256^((c::t).length-1):=Nat.pow_pos (by decide)
   rw [Bool.true_and,eq_comm,bne_iff_ne];omega
theorem wformed_rw(z:Int):wformed (rw z)=true:=by
 unfold wformed
 have h:(rw z).s.data.toList=bytesOf z.natAbs:=by simp [rw,bS]
 rw [h]
 cases e:bytesOf z.natAbs with
 | nil =>
  have:z.natAbs=0:=by rw [← natB_bytesOf z.natAbs,e];rfl
  simp [rw];omega
 | cons c t =>
  have:=formB_bytesOf z.natAbs
  rw [e] at this
  unfold formB at this
  simpa using this
theorem rw_inj{x y:Int}(h:rw x=rw y):x=y:=by
 have h1:decide (x<0)=decide (y<0):=congrArg RW.n h
 have h2:bS x.natAbs=bS y.natAbs:=congrArg RW.s h
 have h3:x.natAbs=y.natAbs:=by
  have:bytesOf x.natAbs=bytesOf y.natAbs:=by
   have:=congrArg (fun b:ByteArray=>b.data.toList) h2
   simpa [bS] using this
  rw [← natB_bytesOf x.natAbs,this,natB_bytesOf]
 by_cases hx:x<0<;>by_cases hy:y<0<;>simp [hx,hy] at h1<;>omega
theorem rf_inj{p q:Rat}(h:rf p=rf q):p=q:=by
 have h1:=rw_inj (congrArg RF.a h)
 have h2:=rw_inj (congrArg RF.b h)
 exact Rat.ext h1 (by omega)
theorem rg_inj{p q:Cx}(h:rg p=rg q):p=q:=Cx.ext' (rf_inj (congrArg RG.re h)) (rf_inj (congrArg RG.im h))
open Classical in
noncomputable def fformed(r:RF):Bool:=decide (∃ q,r=rf q)
open Classical in
theorem fformed_rf(q:Rat):fformed (rf q)=true:=by
 unfold fformed;exact @decide_eq_true _ _ ⟨q,rfl⟩
open Classical in
theorem fformed_ex{r:RF}(h:fformed r=true):∃ q,r=rf q:=by
 unfold fformed at h;exact @of_decide_eq_true _ _ h
def fits(r:RF):Bool:=decide (r.a.s.size≤1024)&&decide (r.b.s.size≤1024)
theorem toList_inj{s t:ByteArray}:s.toList=t.toList↔s=t:=by
 constructor
 ·intro h;rw [ByteArray.toList_eq,ByteArray.toList_eq] at h
  cases s;cases t;congr 1;exact Array.toList_inj.1 h
 ·intro h;rw [h]
theorem rf_dec(x y:Rat):decide (rf x=rf y)=decide (x=y):=by
 by_cases h:x=y
 ·subst h;simp
 ·rw [decide_eq_false h,decide_eq_false (fun e=>h (rf_inj e))]
theorem ex_eql_frac{ρ:Operand→Value}{o:Oper}{w:World}{k:TypeId}(a b:Operand)(ho:o.op=.binOp .eql 25 a b k){r q:RF}(ha:ρ a=.agg #[.bool r.a.n,.string r.a.s,.bool r.b.n,.string r.b.s])(hb:ρ b=.agg #[.bool q.a.n,.string q.a.s,.bool q.b.n,.string q.b.s]){c:Bool}(hc:decide (r=q)=c):(execOp ρ o).run Tryz.prog w=.ok (.value (.bool (c))) w:=by
 subst hc
 obtain⟨⟨n1,s1⟩,⟨n2,s2⟩⟩:=r
 obtain⟨⟨m1,t1⟩,⟨m2,t2⟩⟩:=q
 unfold execOp
 simp only [ho,ha,hb]
 by_cases h1:n1=m1<;>by_cases h2:s1=t1<;>by_cases h3:n2=m2<;>by_cases h4:s2=t2<;>simp [h1,h2,h3,h4,go_sem,toList_inj]
end Go.Proofs.YtcdbmjnipaochaaGreat
namespace Go.Proofs.YtcdbmjnipaochaaGreat
open Go.RowKit Rgn
theorem bl_bytes(n:Nat):bl n≤8*(bS n).size:=by
 have h:(bS n).size=(leB n).length:=by
  show (bytesOf n).toArray.size=_
  simp [bytesOf]
 rw [h]
 apply bl_le.2
 rw [Nat.pow_mul]
 exact leB_len_le.1 (Nat.le_refl _)
theorem hi_bytes(z:Int):hi z≤8*(rw z).s.size+1:=by
 have:=bl_bytes z.natAbs
 show bl z.natAbs+1≤8*(bS z.natAbs).size+1
 omega
noncomputable def fmay(r:RF):Bool:=fits r&&fformed r
def gfits(r:RG):Bool:=fits r.re&&fits r.im
noncomputable def gmay(r:RG):Bool:=fmay r.re&&fmay r.im
theorem and_tt{a b:Bool}(h:(a&&b)=true):a=true∧b=true:=by cases a<;>cases b<;>simp_all
theorem fmay_ex{r:RF}(h:fmay r=true):∃ q,r=rf q:=by
 unfold fmay at h;exact fformed_ex (and_tt h).2
theorem gmay_ex{r:RG}(h:gmay r=true):∃ c,r=rg c:=by
 unfold gmay at h
 obtain⟨p,hp⟩:=fmay_ex (and_tt h).1
 obtain⟨q,hq⟩:=fmay_ex (and_tt h).2
 obtain⟨a,b⟩:=r
 have hp:a=rf p:=hp
 have hq:b=rf q:=hq
 exact⟨⟨p,q⟩,by rw [hp,hq]⟩
theorem gmay_rg(c:Cx):gmay (rg c)=gfits (rg c):=by
 show ((fits (rf c.re)&&fformed (rf c.re))&&(fits (rf c.im)&&fformed (rf c.im)))=(fits (rf c.re)&&fits (rf c.im))
 rw [fformed_rf,fformed_rf,Bool.and_true,Bool.and_true]
end Go.Proofs.YtcdbmjnipaochaaGreat
namespace Go.Proofs.YtcdbmjnipaochaaGreat
open Go.RowKit Rgn
theorem Rgn.Only.growF{z:Nat}{w w': World}(h:Only z w w')(hz:Soft w z∨Local w z):GrowS (fun _=>False) w w' :=
 ⟨h.os,h.tape,h.output,h.size,fun k hk=>by
  by_cases e:k=z
  ·subst e
   rcases hz with hz|hz
   ·exact .inr (.inr ⟨hz,fun x=>x⟩)
   ·exact .inr (.inl hz)
  ·exact .inl (h.block k hk e)⟩
theorem cut_mag{w:World}{v:Value}{l:List Nat}(h:Words w v l):Mag w (cutV l v) (val l):=⟨trim l,h.cut,trim_canon l,val_trim l⟩
theorem bIs{W:World}{z:Nat}{v2:Value}(neg:Bool)(n:Nat)(hz:IntBlk W z){S:Nat→Prop}(t2:(RawP n).p S v2 W):Calls Tryz.prog 279 #[.pointer (some ⟨z,0,none⟩),.bool neg,v2] W (RetOwn z (IntO (sgn neg n)) W):=by
 obtain⟨l,hw,rfl⟩:=t2
 obtain⟨x,y,hB⟩:=hz
 have hcut:=bigcut_any v2 l W hw
 have hM:=cut_mag hw
 obtain⟨p,m,c,hp,hm0,hm1⟩:=Mag.open hM
 rw [hp] at hcut hM
 have hb1:(neg&&val l != 0)=(neg && !decide (val l=0)):=by cases neg<;>simp [bne];try (by_cases h:val l=0<;>simp [h])
 have hO:Only z W ((W.setCell ⟨z,1,none⟩ (.slice p m c)).setCell ⟨z,0,none⟩ (.bool (neg&&val l != 0))):=(setCell_only W ⟨z,1,none⟩ _).trans (setCell_only _ ⟨z,0,none⟩ _)
 have hB1:=setCell_at (o:=1) (v:=.slice p m c) hB
 have hB2:=setCell_at (o:=0) (v:=.bool (neg&&val l != 0)) hB1
 have hMag:=MagP (val l) |>.grow (hO.growF (.inl ⟨_,_,hB,rfl⟩)) (S:=fun _=>False) hM
 have HR:RetOwn z (IntO (sgn neg (val l))) W (.returned (.pointer (some ⟨z,0,none⟩))) ((W.setCell ⟨z,1,none⟩ (.slice p m c)).setCell ⟨z,0,none⟩ (.bool (neg&&val l != 0))):=by
  refine⟨rfl,⟨z,rfl,rfl,.slice p m c,?_,by rw [sgn_abs];exact hMag⟩,hO⟩
  rw [hB2,← sgn_neg];rfl
 have HR:=Lib.hid HR
 have hf1:W.frozen? ⟨z,1,none⟩=false:=frozen_of hB
 have hf2:=frozen_of (off:=0) hB1
 have hcc1:=cell_of (off:=1) hB rfl
 have hcc2:=cell_of (off:=0) hB1 rfl
 have hcc3:=cell_of (off:=1) hB1 rfl
 have hmI:decide ((0:Int)<(m:Int)) = !decide (val l=0):=by rw [← len_gt hm0];simp
 have hm2:=len_gt hm0
 have hcc1' : W.cell? ⟨z,1,none⟩=some y:=hcc1
 have hcc2' : (W.setCell ⟨z,1,none⟩ (.slice p m c)).cell? ⟨z,0,none⟩=some x:=hcc2
 have hcc3' : (W.setCell ⟨z,1,none⟩ (.slice p m c)).cell? ⟨z,1,none⟩=some (.slice p m c):=hcc3
 clear hcc1 hcc2 hcc3 hB1 hp hm0 hB2 hM hMag hO hw
 cases neg with
 | false =>
  simp only [Bool.false_and] at HR
  clear hb1 hm2 hmI
  go_enter Tryz.func279,Tryz.ntmps279
  go_wp2_with fail
  go_call hcut as _ _ ⟨rfl,rfl⟩
  go_wp2_with fail
  exact ret_ok rfl (by exact results_tmp' rfl rfl) HR.out
 | true =>
  simp only [Bool.true_and] at HR hb1
  rw [hb1,← hm2] at HR
  clear hb1 hm2 hmI
  generalize sgn true (val l)=sg at *
  go_enter Tryz.func279,Tryz.ntmps279
  go_wp2_with fail
  go_call hcut as _ _ ⟨rfl,rfl⟩
  go_wp2_with fail
  exact ret_ok rfl (by exact results_tmp' rfl rfl) HR.out
theorem IntP.c0{n:Int}{b o k:Nat}{S:Nat→Prop}{w:World}(h:(IntP n).p S (.pointer (some ⟨b,o,none⟩)) w)(hk:k=o):w.cell? ⟨b,k,none⟩=some (.bool (decide (n<0))):=by
 subst hk
 obtain⟨c,T,v,h1,h2,h3,h4,h5⟩:=IntP.in h
 simp [World.cell?,h1,h3]
theorem IntP.c1{n:Int}{b o k:Nat}{S:Nat→Prop}{w:World}(h:(IntP n).p S (.pointer (some ⟨b,o,none⟩)) w)(hk:k=o+1):∃ v,w.cell? ⟨b,k,none⟩=some v∧Mag w v n.natAbs:=by
 subst hk
 obtain⟨c,T,v,h1,h2,h3,h4,h5⟩:=IntP.in h
 exact⟨v,by simp [World.cell?,h1,h4],h5⟩
theorem Rgn.SP.magVal{B0:Nat}{R0:Nat→Prop}{olds:List (Nat×Nat)}{i:Nat}{near:List Nat}{n a b:Nat}{u:Nat→Got}{w:World}{v:Value}(h:Mag w v n):(SP.val (B0:=B0) (R0:=R0) (olds:=olds) i near (MagP n)).p (upd u i ⟨v,a,b⟩) w:=by
 show Mag w (upd u i _ i).v n
 rw [upd_same];exact h
theorem len_eq{m n:Nat}(h:m=0↔n=0):((m:Int) == 0)=decide (n=0):=by
 by_cases e:n=0
 ·have:=h.2 e;subst this;simp [e]
 ·have:m≠0:=fun x=>e (h.1 x)
  rw [decide_eq_false e,beq_eq_false_iff_ne];omega
def LenP(n:Nat):VP:=⟨fun _ v _=>∃ m:Nat,v=.int .i64 m∧(m=0↔n=0),fun _ h=>h,fun _ h=>h⟩
theorem Rgn.SP.lenVal{B0:Nat}{R0:Nat→Prop}{olds:List (Nat×Nat)}{i:Nat}{near:List Nat}{n a b m:Nat}{u:Nat→Got}{w:World}(h:m=0↔n=0):(SP.val (B0:=B0) (R0:=R0) (olds:=olds) i near (LenP n)).p (upd u i ⟨.int .i64 m,a,b⟩) w:=by
 show ∃ m' : Nat,(upd u i _ i).v=.int .i64 m'∧_
 rw [upd_same];exact⟨m,rfl,h⟩
theorem into_eq{a b:Int}(h:a=b){S:Nat→Prop}{v:Value}{w:World}(F:(IntO a).p S v w):(IntO b).p S v w:=h ▸ F
theorem rat_eq{a b:Rat}(h:a=b){S:Nat→Prop}{v:Value}{w:World}(F:(RatP a).p S v w):(RatP b).p S v w:=h ▸ F
theorem icmp_nn{x y:Int}(h:x<0)(h': y<0):Value.int .i64 (cmp3 y.natAbs x.natAbs)=.int .i64 (icmp x y):=by
 congr 1
 rcases Nat.lt_trichotomy y.natAbs x.natAbs with h3|h3|h3
 ·rw [cmp3_lt h3,icmp_lt (by omega)]
 ·rw [cmp3_eq h3,icmp_eq (by omega)]
 ·rw [cmp3_gt h3,icmp_gt (by omega)]
theorem icmp_np{x y:Int}(h:x<0)(h': ¬ y<0):Value.int .i64 (-1)=.int .i64 (icmp x y):=by rw [icmp_lt (by omega)]
theorem icmp_pn{x y:Int}(h:¬ x<0)(h': y<0):Value.int .i64 1=.int .i64 (icmp x y):=by rw [icmp_gt (by omega)]
theorem icmp_pp{x y:Int}(h:¬ x<0)(h': ¬ y<0):Value.int .i64 (cmp3 x.natAbs y.natAbs)=.int .i64 (icmp x y):=by
 congr 1
 rcases Nat.lt_trichotomy x.natAbs y.natAbs with h3|h3|h3
 ·rw [cmp3_lt h3,icmp_lt (by omega)]
 ·rw [cmp3_eq h3,icmp_eq (by omega)]
 ·rw [cmp3_gt h3,icmp_gt (by omega)]
theorem add_1{x y:Int}{s:Bool}(h:(decide (x<0) == s)=true):sgn s (x.natAbs+y.natAbs)=x+sgn s y.natAbs:=by
 have h:decide (x<0)=s:=by simpa using h
 subst h
 unfold sgn;by_cases h1:x<0<;>simp [h1]<;>omega
theorem add_2{x y:Int}{s:Bool}(h:(decide (x<0) == s)=false)(h': (0:Int)≤cmp3 x.natAbs y.natAbs):sgn (decide (x<0)) (x.natAbs-y.natAbs)=x+sgn s y.natAbs:=by
 have h2:=cmp3_ge_le h'
 have h:decide (x<0)≠s:=by simpa using h
 cases s<;>unfold sgn<;>by_cases h1:x<0<;>simp [h1] at h ⊢<;>omega
theorem add_3{x y:Int}{s:Bool}(h:(decide (x<0) == s)=false)(h': ¬ (0:Int)≤cmp3 x.natAbs y.natAbs):sgn s (y.natAbs-x.natAbs)=x+sgn s y.natAbs:=by
 have h2:=cmp3_nge_le h'
 have h:decide (x<0)≠s:=by simpa using h
 cases s<;>unfold sgn<;>by_cases h1:x<0<;>simp [h1] at h ⊢<;>omega
theorem add_p(x y:Int):x+sgn (decide (y<0)) y.natAbs=x+y:=by rw [sgn_self]
theorem add_m(x y:Int):x+sgn (!decide (y<0)) y.natAbs=x-y:=by
 unfold sgn;by_cases h1:y<0<;>simp [h1]<;>omega
section
variable {S:Nat→Prop} {W:World}
theorem Ret.raw{S:Nat→Prop}{n:Nat}{W:World}{e:Ending}{w': World}(h:RawRet n W e w'):Ret (RawP n) S W e w' := by
 obtain⟨v,l,h1,h2,h3,h4⟩:=h;exact⟨v,h1,⟨l,h2,h3⟩,h4⟩
theorem bProduct{v0 v1:Value}(a b:Nat)(t0:(MagP a).p S v0 W)(t1:(MagP b).p S v1 W)(p0:bl a≤1099511627776)(p1:bl b≤1099511627776):Calls Tryz.prog 291 #[v0,v1] W (Ret (RawP (a*b)) S W):=by
 obtain⟨l,h1,h2,h3,h4⟩:=Mag.words t0 p0
 obtain⟨m,g1,g2,g3,g4⟩:=Mag.words t1 p1
 subst h3;subst g3
 exact (bigproduct_any v0 v1 l m W h1 g1 (by omega) (by omega)).mono fun e w' h=>Ret.raw h
theorem bMore{v0 v1:Value}(a b:Nat)(t0:(MagP a).p S v0 W)(t1:(MagP b).p S v1 W)(p0:bl a≤1099511627776)(p1:bl b≤1099511627776):Calls Tryz.prog 298 #[v0,v1] W (Ret (RawP (a+b)) S W):=by
 obtain⟨l,h1,h2,h3,h4⟩:=Mag.words t0 p0
 obtain⟨m,g1,g2,g3,g4⟩:=Mag.words t1 p1
 subst h3;subst g3
 exact (bigmore_any v0 v1 l m W h1 g1 (by omega) (by omega)).mono fun e w' h=>Ret.raw h
theorem bLess{v0 v1:Value}(a b:Nat)(t0:(MagP a).p S v0 W)(t1:(MagP b).p S v1 W)(p0:bl a≤1099511627776)(p1:b≤a):Calls Tryz.prog 299 #[v0,v1] W (Ret (RawP (a-b)) S W):=by
 obtain⟨l,h1,h2,h3,h4⟩:=Mag.words t0 p0
 obtain⟨m,g1,g2,g3,g4⟩:=Mag.words t1 (Nat.le_trans (bl_mono p1) p0)
 subst h3;subst g3
 exact (bigless_any v0 v1 l m W h1 g1 g2 (by omega) p1).mono fun e w' h=>Ret.raw h
theorem bUnder{v0 v1:Value}(a b:Nat)(t0:(MagP a).p S v0 W)(t1:(MagP b).p S v1 W):Calls Tryz.prog 255 #[v0,v1] W (RetV (.int .i64 (cmp3 a b)) W):=by
 obtain⟨l,h1,h2,h3⟩:=t0
 obtain⟨m,g1,g2,g3⟩:=t1
 subst h3;subst g3
 exact (bigunder_any v0 v1 l m W h1 g1 h2 g2).mono fun e w' ⟨h1,n,h2⟩=>RetV.mk h1 (by subst h2;exact below_drewN (Below.refl _ _) n)
theorem bDivide{v0 v1:Value}(a b:Nat)(t0:(MagP a).p S v0 W)(t1:(MagP b).p S v1 W)(p0:bl a≤1099511627776)(p1:b≠0):Calls Tryz.prog 300 #[v0,v1] W (Ret (VP.tup (MagP (a/b)) (MagP (a%b))) S W):=by
 obtain⟨l,h1,h2,h3,h4⟩:=Mag.words t0 p0
 obtain⟨m,g1,g2,g3⟩:=t1
 subst h3;subst g3
 exact (bigdivide_any v0 v1 l m W h1 g1 h2 g2 (fun e=>p1 (by subst e;rfl)) (by omega)).mono fun e w' ⟨q,r,h1,h2,h3,h4⟩=>⟨_,h1,⟨q,r,rfl,h2,h3⟩,h4⟩
end
def Byts(w:World)(v:Value)(l:List UInt8):Prop :=
 ∃ b off cap cur fr,v=.slice (some ⟨b,off,none⟩) l.length cap∧w.heap[b]? = some (.cells cur 5 fr)∧l.length≤cap∧cap≤9223372036854775807 ∧
  ∀ i x,l[i]? = some x→cur[off+i]? = some (.int .u8 (x.toNat:Int))
theorem Byts.grow{S:Nat→Prop}{w w': World}{v:Value}{l:List UInt8}(hw:Byts w v l)(h:GrowS S w w'):Byts w' v l:=by
 obtain⟨b,off,cap,cur,fr,h1,h2,h3,h4,h5⟩:=hw
 refine⟨b,off,cap,cur,fr,h1,?_,h3,h4,h5⟩
 rcases h.block b (lt_of h2) with hb|⟨c,T,fr', hb,hT⟩|⟨⟨c,T,hb,hT⟩,_⟩
 ·rw [hb];exact h2
 ·rw [h2] at hb;cases hb;exact absurd hT (by decide)
 ·rw [h2] at hb;cases hb;simp at hT
theorem Byts.low{w w': World}{v:Value}{l:List UInt8}(h:Byts w v l)(hb:Below w.heap.size w w'):Byts w' v l:=by
 obtain⟨b,off,cap,cur,fr,h1,h2,h3⟩:=h
 exact⟨b,off,cap,cur,fr,h1,by rw [hb.block b (lt_of h2)];exact h2,h3⟩
theorem BBlk.byts{w:World}{b:Nat}{l:List UInt8}(h:BBlk w b l){n cap:Nat}(hn:n=l.length)(hc:l.length≤cap)(hc': cap≤9223372036854775807):Byts w (.slice (some ⟨b,0,none⟩) n cap) l:=by
 subst hn
 refine⟨b,0,cap,_,_,rfl,h,hc,hc', fun i x hx=>?_⟩
 obtain⟨hi,hx⟩:=List.getElem?_eq_some_iff.1 hx
 subst hx
 simp [bcells,hi]
theorem Byts.str{w:World}{v:Value}{l:List UInt8}(h:Byts w v l):(convert 243 9 v).run Tryz.prog w=.ok (.string ⟨l.toArray⟩) w:=by
 obtain⟨b,off,cap,cur,fr,rfl,h2,h3,h4,h5⟩:=h
 refine run_convert_bytes_back w _ _ 5 ⟨b,off,none⟩ cap l Tryz.underlying243 Tryz.underlying5 Tryz.underlying9 fun j hj=>?_
 have e:(⟨b,off,none⟩:Addr).add j=⟨b,off+j,none⟩:=Addr.add_lit _ _ _
 rw [e]
 simp [World.cell?,h2,h5 j _ (List.getElem?_eq_getElem hj)]
def BytP(n:Nat):VP:=⟨fun _ v w=>Byts w v (bytesOf n),fun _ h=>h,fun h hp=>hp.grow h⟩
theorem conv_bytes(s:ByteArray)(w:World)(hs:s.size≤1099511627776):∃ v w', (convert 9 243 (.string s)).run Tryz.prog w=.ok v w'∧Byts w' v s.data.toList∧Below w.heap.size w w' := by
 have h:=run_bytes_of_string w 9 243 5 s Tryz.underlying9 Tryz.underlying243 Tryz.underlying5
 have hg:=grownCap_ge w s.size 0 5
 have hm:=grownCap_le_maxLen w s.size 0 5 (Nat.le_trans hs (by unfold maxLen;omega))
 have hsz:s.data.toList.length=s.size:=Array.length_toList
 generalize grownCap w s.size 0 5=cap at *
 refine⟨_,_,h,⟨w.heap.size,0,cap,_,_,by rw [hsz],(MapKept.heap_alloc w.drew _).1,by omega,Nat.le_trans hm (by unfold maxLen;omega),fun i x hx=>?_⟩,Below.alloc (Below.drew (Below.refl _ _)) (Nat.le_refl _) _⟩
 obtain⟨hi,hx⟩:=List.getElem?_eq_some_iff.1 hx
 subst hx
 have hi' : i<s.data.size:=by rw [hsz] at hi;exact hi
 simp only [Nat.zero_add,bytesRow]
 rw [Array.getElem?_append_left (by simpa using hi')]
 simp only [Array.getElem?_map,Array.getElem?_eq_getElem hi', Option.map_some,Array.getElem_toList]
theorem conv_byt(n:Nat)(w:World)(hs:bl n≤1099511627776):∃ v w', (convert 9 243 (.string (bS n))).run Tryz.prog w=.ok v w'∧(BytP n).p Any v w'∧Below w.heap.size w w' := by
 obtain⟨v,w', h1,h2,h3⟩:=conv_bytes (bS n) w (by
  have:(bS n).size=(leB n).length:=by
   show (bytesOf n).toArray.size=_
   simp [bytesOf]
  rw [this,← bytesOf_len]
  exact bytes_len_le hs)
 refine⟨v,w', h1,?_,h3⟩
 have e:(bS n).data.toList=bytesOf n:=by simp [bS]
 rw [e] at h2;exact h2
theorem bl_div(V m:Nat):bl (V/2^m)=bl V-m:=by
 have h:∀ j,bl (V/2^m)≤j↔bl V≤j+m:=fun j=>by
  rw [bl_le,bl_le,Nat.div_lt_iff_lt_mul (Nat.pow_pos (by decide)),Nat.pow_add]
 have h1:=(h (bl (V/2^m))).1 (Nat.le_refl _)
 have h2:=(h (bl V-m)).2 (by omega)
 omega
theorem bl_two{t:Nat}(h:0<t):bl (2*t)=bl t+1:=by
 have e:bl t=bl (2*t)-1:=by
  have:=bl_div (2*t) 1
  rwa [Nat.pow_one,Nat.mul_div_cancel_left t (by decide)] at this
 have:bl (2*t)≠0:=fun h0=>by
  have:=bl_le.1 (Nat.le_of_eq h0)
  rw [Nat.pow_zero] at this;omega
 omega
theorem bl_top{t:Nat}(h:2147483648≤t)(h': t<4294967296):bl t=32:=by
 have h1:bl t≤32:=bl_le.2 (by omega)
 have h2:¬ bl t≤31:=fun h2=>by have:=bl_le.1 h2;omega
 omega
theorem top_bl{l:List Nat}{k:Nat}(hb:Bd l)(hc:Canon l)(hk:l.length=k+1):0<l.getD k 0∧l.getD k 0<4294967296∧bl (l.getD k 0)+32*(k+1)=bl (val l)+32:=by
 have h1:=canon_ge hc (fun e=>by rw [e] at hk;simp at hk)
 have h2:=val_div hb k
 rw [val_drop,List.drop_eq_nil_of_le (by omega)] at h2
 have h3:val ([]:List Nat)=0:=rfl
 rw [h3,Nat.mul_zero,Nat.add_zero] at h2
 have h4:(4294967296:Nat)^k=2^(32*k):=by rw [Nat.pow_mul]
 have h5:=bl_div (val l) (32*k)
 rw [hk,Nat.add_sub_cancel] at h1
 have h6:0<val l/4294967296^k:=Nat.div_pos h1 (Nat.pow_pos (by decide))
 rw [h2] at h6
 rw [← h4,h2] at h5
 have h7:bl (l.getD k 0)≠0:=fun h0=>by
  have:=bl_le.1 (Nat.le_of_eq h0)
  rw [Nat.pow_zero] at this;omega
 exact⟨h6,hb.getD k,by omega⟩
theorem bBitLen{S:Nat→Prop}{W:World}{v0:Value}(x:Int)(t0:(IntP x).p S v0 W)(p0:hi x≤1099511627776):Calls Tryz.prog 296 #[v0] W (RetV (.int .i64 (bl x.natAbs:Nat)) W):=by
 obtain⟨b,ob,rfl,L_b,F_b⟩:=IntP.elim t0
 obtain⟨v,hc1,hM⟩:=IntP.c1 (k:=ob+1) F_b rfl
 have q0:=hi_bl x
 obtain⟨l,hW,hC,hv,hl⟩:=hM.words (by omega)
 rw [← hv]
 have Hb:=hW.bd
 clear hM hv q0 p0 t0 F_b L_b
 obtain⟨a,c,rfl,h1,h2⟩:=hW.len
 by_cases hz:l.length=0
 ·have e:l=[]:=List.length_eq_zero_iff.1 hz
  subst e
  go_enter Tryz.func296,Tryz.ntmps296
  go_wp2_with fail
  exact ret_ok rfl (by exact results_tmp' rfl rfl) (RetV.mk rfl (Below.refl _ _))
 ·obtain⟨k,hk⟩:∃ k,l.length=k+1:=⟨l.length-1,by omega⟩
  obtain⟨b', off,rfl,hca⟩:=hW.at (k:=k) (by omega)
  obtain⟨g1,g2,g3⟩:=top_bl Hb hC hk
  have hkI:(l.length:Int)-1=(k:Int):=by omega
  have h32:(0:Int)<32*(l.length:Int):=by omega
  have hmu:IntKind.i64.wrap (32*(l.length:Int))=32*(l.length:Int):=IntWalk.i64_in _ (by omega)
  generalize l.getD k 0=T at *
  generalize bl (val l)=B at *
  clear hW hC Hb
  have hca2:∀ n:Nat,(W.drewN n).cell? ⟨b', off+k,none⟩=some (.int .u32 (T:Int)):=fun _=>hca
  go_enter Tryz.func296,Tryz.ntmps296
  go_wp2_with fail
  go_quiet (fail)
  go_wp2_with fail
  go_loop [3,4] (fun v3 v4=>∃ m t:Nat,v3=.int .i64 m∧v4=.int .u32 t∧0<t∧t<4294967296∧bl t+m=B+32∧m≤32*l.length) (fun _ v4=>4294967296-(intOf v4).toNat)
  case atStart=>exact⟨32*l.length,T,by go_num,rfl,g1,g2,by omega,Nat.le_refl _⟩
  case round =>
   obtain⟨m,t,rfl,rfl,e1,e2,e3,e4⟩:=hrel
   by_cases ht:t<2147483648
   ·have hc:((t:Int)/2147483648 == 0)=true:=by rw [beq_iff_eq];omega
    have hb2:=bl_two e1
    have hm1:1≤m:=by
     have:bl t≤31:=bl_le.2 (by omega)
     omega
    have hw:IntKind.u32.wrap ((t:Int)*2)=(t:Int)*2:=IntWalk.u32_in _ (by omega)
    have hw2:IntKind.i64.wrap ((m:Int)-1)=(m:Int)-1:=IntWalk.i64_in _ (by omega)
    go_wp2_with fail
    exact⟨⟨m-1,2*t,by go_num,by go_num,by omega,by omega,by omega,by omega⟩,by simp [intOf];omega⟩
   ·have hc:((t:Int)/2147483648 == 0)=false:=by rw [beq_eq_false_iff_ne];omega
    have hB:=bl_top (by omega) e2
    have hmB:m=B:=by omega
    subst hmB
    go_wp2_with fail
    exact ret_ok rfl (by exact results_tmp' rfl rfl) (RetV.mk rfl (below_drewN (Below.refl _ _) _))
theorem SetBytes_or{x c r:Nat}(hx:x<256^r)(hr:r<4)(h:x+c*256^r<4294967296):bits .or .u32 (x:Int) ((c:Int)*(256:Int)^r)=(x:Int)+(c:Int)*(256:Int)^r:=by
 have h1:((256^r:Nat):Int)=(256:Int)^r:=by simp
 have h2:((2:Int)^(8*r))=(256:Int)^r:=by rw [Int.pow_mul];rfl
 have h3:((c*256^r:Nat):Int)=(c:Int)*(256:Int)^r:=by rw [Int.natCast_mul,h1]
 rw [← h3]
 refine bits_join_low .u32 32 (by decide) wraps_u32 (8*r) _ _ (by omega) ?_ (by omega) (by omega) ?_ (by omega)
 ·rw [h2,← h1];omega
 ·rw [h2,h3];exact Int.mul_emod_left _ _
theorem bSetBytes{S:Nat→Prop}{W:World}{z:Nat}{v1:Value}(n:Nat)(hz:IntBlk W z)(t1:(BytP n).p S v1 W)(p0:bl n≤1099511627000):Calls Tryz.prog 177 #[.pointer (some ⟨z,0,none⟩),v1] W (RetOwn z (IntO (n:Int)) W):=by
 have hlen:=bytes_len_le p0
 have hnat:natB (bytesOf n)=n:=natB_bytesOf n
 have HT:=Lib.hid (show Byts W v1 (bytesOf n) from t1)
 generalize bytesOf n=l at *
 obtain⟨bb,bo,cap,cur,fr,rfl,hB,hc1,hc2,hcl⟩:=HT.out
 clear t1
 obtain⟨N,hN⟩:∃ N,N=(l.length+3)/4:=⟨_,rfl⟩
 have hmk:=make_words (((l.length:Int)+3)/4) N (by omega) (by omega)
 have HN:=Lib.hid hN
 have HC:=Lib.hid hcl
 have hI:=fun (w' : World) (v:Value) (hb:Below W.heap.size W w') (hv:(RawP n).p (fun _=>False) v w') =>
  bIs (W:=w') (z:=z) (v2:=v) false n (by obtain⟨x,y,h⟩:=hz;exact⟨x,y,by rw [hb.block z (lt_of h)];exact h⟩) (S:=fun _=>False) hv
 clear hN hcl
 go_enter Tryz.func177,Tryz.ntmps177
 go_wp2_with fail
 go_loopw [15] (fun v4 wr=>∃ (i:Nat) (L:List Nat),v4=.int .i64 i∧i≤l.length∧L.length=N∧Hid (Bd L)∧Hid (val L=natL (l.reverse.take i))∧Hid (Blk wr W.heap.size L)∧Hid (Below W.heap.size W wr)) (fun v4 _=>l.length-(intOf v4).toNat)
 case atStart =>
  refine⟨0,List.replicate N 0,rfl,by omega,by simp,Bd.replicate _,?_,Blk.alloc _ _,?_⟩
  ·show _=_;simp [val_replicate,natL]
  ·show Below _ _ _;go_grown
 case round =>
  obtain⟨i,L,rfl,hi,hL,HB,HS,HK,HW⟩:=hrel
  by_cases hin:i<l.length
  ·have hin' : (i:Int)<(l.length:Int):=by omega
   have hN:=HN.out
   obtain⟨k,hk⟩:∃ k,l.length-1-i=k:=⟨_,rfl⟩
   have hks:k<l.length:=by omega
   have hkI:(l.length:Int)-1-(i:Int)=(k:Int):=by omega
   obtain⟨c,hc⟩:∃ c,l[k]? = some c:=⟨_,List.getElem?_eq_getElem hks⟩
   have hrg:l.reverse[i]'(by simpa using hin)=c:=by
    have h1:=List.getElem?_eq_getElem (l:=l.reverse) (i:=i) (by simpa using hin)
    rw [List.getElem?_reverse hin,hk,hc] at h1
    exact (Option.some.inj h1).symm
   have hcell:wr.cell? ⟨bb,bo+k,none⟩=some (.int .u8 (c.toNat:Int)):=by
    have hB' : wr.heap[bb]? = some (.cells cur 5 fr):=by rw [HW.out.block bb (lt_of hB)];exact hB
    simp [World.cell?,hB', HC.out k c hc]
   have hb:=c.toNat_lt
   have hlt:val L<256^i:=by
    rw [HS.out]
    have:=natL_lt (l.reverse.take i)
    rw [List.length_take,List.length_reverse,Nat.min_eq_left (by omega)] at this
    exact this
   obtain⟨hp1,hp2⟩:=val_put_byte HB.out (i:=i) (c:=c.toNat) (by omega) hlt (by omega)
   have HS' : Hid (val (L.set (i/4) (L.getD (i/4) 0+c.toNat*256^(i%4)))=natL (l.reverse.take (i+1))):=show _=_ by
    rw [hp2,HS.out,natL_take_succ _ _ (by simpa using hin),hrg]
   obtain⟨q,hq⟩:∃ q,q=i/4:=⟨_,rfl⟩
   have hqI:(i:Int)/4=(q:Int):=by omega
   have hqN:q<N:=by omega
   have hx4:L.getD (i/4) 0<256^(i%4):=by
    have h1:=val_div HB.out (i/4)
    rw [val_drop] at h1
    have h2:val L/4294967296^(i/4)<256^(i%4):=by
     rw [pow_words,Nat.div_lt_iff_lt_mul (Nat.pow_pos (by decide)),← Nat.pow_add,show i%4+4*(i/4)=i by omega]
     exact hlt
    omega
   rw [← hq] at hp1 HS' hx4
   have hcl:=HK.out.cell (i:=q) (by omega)
   have hfl:=HK.out.free q
   have HB' := Lib.hid (fun x hx=>HB.out.set (x:=x) hx q)
   generalize L.getD q 0=x at *
   have hqw:IntKind.i64.wrap (q:Int)=(q:Int):=IntWalk.i64_in _ (by omega)
   have hbw:=IntWalk.u32_in (c.toNat:Int) (by omega)
   obtain⟨r,hr⟩:∃ r,i%4=r:=⟨_,rfl⟩
   have hr4:r<4:=by omega
   rw [hr] at hp1 HS' hx4
   have hrI:(i:Int).tmod 4=(r:Int):=by rw [Int.tmod_eq_emod_of_nonneg (by omega)];omega
   have hor:=SetBytes_or (c:=c.toNat) hx4 hr4 hp1
   clear hq hr hp2 hlt HS hN hk
   rcases (by omega:r=0∨r=1∨r=2∨r=3) with h|h|h|h
   ·subst h
    simp only [Int.natCast_zero] at hrI
    simp only [Nat.reducePow,Int.reducePow,Nat.mul_one,Int.mul_one] at hp1 HS' hor
    have hw8:=IntWalk.i64_in 0 (by decide)
    have hsh:=IntWalk.u32_in ((c.toNat:Int)) (by omega)
    go_wp2_with fail
    go_still_tail 16,(by kernel_rfl)
    clear hsh hw8 hrI hqw hbw hqI hkI
    go_wp2_with fail
    refine⟨?_,?_⟩
    ·refine⟨i+1,L.set q (x+c.toNat),by go_num,by omega,by simp [hL],Lib.hid (HB'.out _ (by omega)),HS', ?_,Lib.hid (Below.setCell (Below.drew HW.out) (Nat.le_refl _) _)⟩
     have:=Blk.set (w:=wr.drew) HK.out q (x+c.toNat)
     rw [show ((x+c.toNat:Nat):Int)=(x:Int)+(c.toNat:Int) by omega] at this
     exact Lib.hid this
    ·simp [intOf];omega
   ·subst h
    simp only [Int.natCast_one] at hrI
    simp only [Nat.reducePow,Int.reducePow,Nat.mul_one,Int.mul_one] at hp1 HS' hor
    have hw8:=IntWalk.i64_in 8 (by decide)
    have hsh:=IntWalk.u32_in ((c.toNat:Int)*256) (by omega)
    go_wp2_with fail
    go_still_tail 16,(by kernel_rfl)
    clear hsh hw8 hrI hqw hbw hqI hkI
    go_wp2_with fail
    refine⟨?_,?_⟩
    ·refine⟨i+1,L.set q (x+c.toNat*256),by go_num,by omega,by simp [hL],Lib.hid (HB'.out _ (by omega)),HS', ?_,Lib.hid (Below.setCell (Below.drew HW.out) (Nat.le_refl _) _)⟩
     have:=Blk.set (w:=wr.drew) HK.out q (x+c.toNat*256)
     rw [show ((x+c.toNat*256:Nat):Int)=(x:Int)+(c.toNat:Int)*256 by omega] at this
     exact Lib.hid this
    ·simp [intOf];omega
   ·subst h
    simp only [Int.cast_ofNat_Int] at hrI
    simp only [Nat.reducePow,Int.reducePow,Nat.mul_one,Int.mul_one] at hp1 HS' hor
    have hw8:=IntWalk.i64_in 16 (by decide)
    have hsh:=IntWalk.u32_in ((c.toNat:Int)*65536) (by omega)
    go_wp2_with fail
    go_still_tail 16,(by kernel_rfl)
    clear hsh hw8 hrI hqw hbw hqI hkI
    go_wp2_with fail
    refine⟨?_,?_⟩
    ·refine⟨i+1,L.set q (x+c.toNat*65536),by go_num,by omega,by simp [hL],Lib.hid (HB'.out _ (by omega)),HS', ?_,Lib.hid (Below.setCell (Below.drew HW.out) (Nat.le_refl _) _)⟩
     have:=Blk.set (w:=wr.drew) HK.out q (x+c.toNat*65536)
     rw [show ((x+c.toNat*65536:Nat):Int)=(x:Int)+(c.toNat:Int)*65536 by omega] at this
     exact Lib.hid this
    ·simp [intOf];omega
   ·subst h
    simp only [Int.cast_ofNat_Int] at hrI
    simp only [Nat.reducePow,Int.reducePow,Nat.mul_one,Int.mul_one] at hp1 HS' hor
    have hw8:=IntWalk.i64_in 24 (by decide)
    have hsh:=IntWalk.u32_in ((c.toNat:Int)*16777216) (by omega)
    go_wp2_with fail
    go_still_tail 16,(by kernel_rfl)
    clear hsh hw8 hrI hqw hbw hqI hkI
    go_wp2_with fail
    refine⟨?_,?_⟩
    ·refine⟨i+1,L.set q (x+c.toNat*16777216),by go_num,by omega,by simp [hL],Lib.hid (HB'.out _ (by omega)),HS', ?_,Lib.hid (Below.setCell (Below.drew HW.out) (Nat.le_refl _) _)⟩
     have:=Blk.set (w:=wr.drew) HK.out q (x+c.toNat*16777216)
     rw [show ((x+c.toNat*16777216:Nat):Int)=(x:Int)+(c.toNat:Int)*16777216 by omega] at this
     exact Lib.hid this
    ·simp [intOf];omega
  ·have e:i=l.length:=by omega
   have hin' : ¬ (i:Int)<(l.length:Int):=by omega
   have hw:=HK.out.all HB.out (cap:=N) (by omega) (by have:=HN.out;omega)
   rw [hL] at hw
   have HV:Hid (val L=n):=show _=_ by
    rw [HS.out,e,List.take_of_length_le (by simp),← hnat,natB]
   clear HS
   go_wp2_with fail
   go_call (hI wr _ HW.out ⟨L,hw,HV.out⟩) as _ w2 ⟨rfl,hf,ho⟩
   go_wp2_with fail
   exact ret_ok rfl (by exact results_tmp' rfl rfl) ⟨rfl,hf,(Only.below HW.out).trans ho⟩
theorem leB_bl(n:Nat):(leB n).length=(bl n+7)/8:=by
 have h:∀ k,(leB n).length≤k↔bl n≤8*k:=fun k=>by
  rw [leB_len_le,bl_le,Nat.pow_mul]
 have h1:=(h (leB n).length).1 (Nat.le_refl _)
 have h2:=(h ((bl n+7)/8)).2 (by omega)
 omega
theorem bBytes{S:Nat→Prop}{W:World}{v0:Value}(x:Int)(t0:(IntP x).p S v0 W)(p0:hi x≤1099511627776):Calls Tryz.prog 253 #[v0] W (Ret (BytP x.natAbs) S W):=by
 have hBL:=bBitLen x t0 p0
 obtain⟨b,ob,rfl,L_b,F_b⟩:=IntP.elim t0
 obtain⟨v,hc1,hM⟩:=IntP.c1 (k:=ob+1) F_b rfl
 have q0:=hi_bl x
 obtain⟨l,hW,hC,hv,hl⟩:=hM.words (by omega)
 have Hb:=hW.bd
 have hblt:=IntP.lt F_b
 obtain⟨n,hn⟩:∃ n,n=(leB (val l)).length:=⟨_,rfl⟩
 have hn2:(((bl x.natAbs:Nat):Int)+7)/8=(n:Int):=by rw [hn,leB_bl,hv];omega
 have hn3:n≤137438953472:=by rw [hn,leB_bl,hv];omega
 have hbl:((bl x.natAbs:Nat):Int)≤1099511627776:=by omega
 rw [← hv] at hBL hn2 hbl ⊢
 have HL:Hid ((leB (val l)).length=n):=show _=_ from hn.symm
 have hval:n≤4*l.length:=by
  rw [hn];exact leB_len_le.2 (by rw [← pow_words];exact val_lt Hb)
 clear hn hM t0 F_b hv q0 p0 hC
 obtain⟨a,c,rfl,h1,h2⟩:=hW.len
 have hcA:∀ w', Below W.heap.size W w'→w'.cell? ⟨b,ob+1,none⟩=some (.slice a l.length c):=fun w' h=>by
  rw [← hc1];unfold World.cell?;rw [h.block b hblt]
 have HcA:=Lib.hid hcA
 have HWW:=Lib.hid hW
 clear hcA hc1 hblt hW
 generalize hB:bl (val l)=B at *
 clear hB
 go_enter Tryz.func253,Tryz.ntmps253
 go_wp2_with fail
 go_call hBL as _ w1 hr
 obtain⟨rfl,hb1⟩:=hr.is
 have hmk:=make_bytes (n:Int) n rfl (by omega)
 go_wp2_with fail
 go_loopw [14] (fun v7 wr=>∃ i:Nat,v7=.int .i64 i∧i≤n∧Hid (BBlk wr w1.heap.size (laid (leB (val l)) n i))∧Hid (Below w1.heap.size w1 wr)) (fun v7 _=>n-(intOf v7).toNat)
 case atStart =>
  refine⟨0,rfl,by omega,?_,?_⟩
  ·rw [laid_none];exact BBlk.alloc _ _
  ·exact Lib.hid (Below.alloc (Below.refl _ _) (Nat.le_refl _) _)
 case round =>
 obtain⟨i,rfl,hi,HK,HW⟩:=hrel
 by_cases him:i<n
 ·have him' : (i:Int)<(n:Int):=by omega
  obtain⟨k,hk⟩:∃ k,k=n-1-i:=⟨_,rfl⟩
  have hkI:(n:Int)-1-(i:Int)=(k:Int):=by omega
  obtain⟨q,hq⟩:∃ q,q=i/4:=⟨_,rfl⟩
  obtain⟨r,hr⟩:∃ r,r=i%4:=⟨_,rfl⟩
  have hqI:(i:Int)/4=(q:Int):=by omega
  have hrI:(i:Int)%4=(r:Int):=by omega
  have hgb:=get_byte Hb i
  rw [← hq,← hr] at hgb
  obtain⟨t,ht⟩:∃ t,t=r*8:=⟨_,rfl⟩
  have htI:(r:Int)*8=(t:Int):=by omega
  obtain⟨p,hp⟩:∃ p,p=256^r:=⟨_,rfl⟩
  have hpI:(2:Int)^t=(p:Int):=by
   have h2:(2:Nat)^(8*r)=256^r:=by rw [Nat.pow_mul]
   rw [ht,hp,← h2,Nat.mul_comm r 8];simp
  have hlen:=HL.out
  have hWr:Below W.heap.size W wr:=hb1.trans (HW.out.mono hb1.size)
  have hcx:=HcA.out wr hWr
  obtain⟨b', off,rfl,hca⟩:=(HWW.out.low hWr).at (k:=q) (by omega)
  have hx:=Hb.getD q
  rw [← hp] at hgb
  generalize l.getD q 0=y at *
  have eq:(y:Int)/(p:Int)=((y/p:Nat):Int):=by simp
  have hxp:y/p≤y:=Nat.div_le_self _ _
  generalize y/p=y2 at *
  obtain⟨d,hd,hbyte⟩:∃ d,(leB (val l))[i]? = some d∧d.toNat=y2%256:=⟨_,List.getElem?_eq_getElem (by omega),by rw [leB_get,hgb]⟩
  have HE:=Lib.hid (laid_step' (k:=k) hlen him (by omega) hd)
  have HX:=Lib.hid (HK.out.set k d)
  have hkl:(laid (leB (val l)) n i).length=n:=by
   have:=laid_len (R:=leB (val l)) (i:=i) (by omega)
   rwa [hlen] at this
  have hfr:=HK.out.free k
  have hcl:=HK.out.cell (i:=k) (by omega)
  generalize ((laid (leB (val l)) n i)[k]'(by omega)).toNat=z at *
  rw [hbyte] at HX
  clear hgb hp hq hr ht hk hlen hbyte hd hWr
  go_wp2_with fail
  refine⟨?_,?_⟩
  ·refine⟨i+1,by go_num,by omega,?_,Lib.hid (HW.out.setCell (Nat.le_refl _) _)⟩
   rw [← HE.out]
   have:=HX.out
   rw [show ((y2%256:Nat):Int)=(y2:Int)%256 by omega] at this
   exact Lib.hid this
  ·simp [intOf];omega
 ·have him' : ¬ (i:Int)<(n:Int):=by omega
  have e:i=n:=by omega
  subst e
  have HF:Hid (Byts wr (.slice (some ⟨w1.heap.size,0,none⟩) i i) (bytesOf (val l))):=by
   have h1:=laid_all (leB (val l))
   rw [HL.out] at h1
   have h2:=HK.out
   rw [h1] at h2
   exact h2.byts (by simp [HL.out]) (by simp [HL.out]) (by omega)
  have HB2:Hid (Below W.heap.size W wr):=Lib.hid (hb1.trans (HW.out.mono hb1.size))
  go_wp2_with fail
  exact ret_ok rfl (by exact results_tmp' rfl rfl) ⟨_,rfl,HF.out,HB2.out⟩
end Go.Proofs.YtcdbmjnipaochaaGreat
namespace Go.Proofs.YtcdbmjnipaochaaGreat
open Go.RowKit Rgn
variable {S:Nat→Prop} {W:World}
theorem bMul{z:Nat}{v1 v2:Value}(x y:Int)(hz:IntBlk W z)(t1:(IntP x).p S v1 W)(t2:(IntP y).p S v2 W)(p0:hi x+hi y≤1099511627776):Calls Tryz.prog 221 #[.pointer (some ⟨z,0,none⟩),v1,v2] W (RetOwn z (IntO (x*y)) W):=by
 have hS_:∃ S' : Nat→Prop,S' z∧(IntP x).p S' v1 W∧(IntP y).p S' v2 W:=⟨fun k=>S k∨k=z,.inr rfl,(IntP x).mono (fun _ _ h=>.inl h) t1,(IntP y).mono (fun _ _ h=>.inl h) t2⟩
 clear t1 t2
 obtain⟨S,L_z,t1,t2⟩:=hS_
 replace L_z:Amb S W z:=.inl L_z
 obtain⟨z_0,z_1,B_z⟩:=hz
 obtain⟨b1,ob1,rfl,L1,F1⟩:=IntP.elim t1
 replace L1:Amb S W b1:=.inl L1
 obtain⟨b2,ob2,rfl,L2,F2⟩:=IntP.elim t2
 replace L2:Amb S W b2:=.inl L2
 have q0:=hi_bl x
 have q1:=hi_bl y
 have bel:Only z W W:=Only.refl _ _
 go_enter Tryz.func221,Tryz.ntmps221
 refine gs 1 (Amb S W) fun _ K3=>?_
 refine .mc rfl ?_
 refine .dg (fun u=>pt z::.pointer (some ⟨b1,ob1,none⟩)::.pointer (some ⟨b2,ob2,none⟩)::U::U::U::u 0::us 20) K3 bel.size fun u1 w1 D=>?_
 have E1_0:=D.q 0
 replace B_z:=D.k B_z
 replace F1:=D.o L1 F1
 replace F2:=D.o L2 F2
 replace bel:=D.d.base.only0 bel
 clear D
 refine wp_seq_k fun _ K4=>?_
 refine go2_drawnT (by kernel_rfl) 19 2 rfl (by decide) (by kernel_rfl) (Amb S W) [] [] (Olds.nil _) (by kernel_rfl) ?_
 refine .mz rfl 0 (V:=pt z) rfl ?_
 refine .mz rfl 1 (V:=.pointer (some ⟨b1,ob1,none⟩)) rfl ?_
 refine .nc rfl 1 ?_
 refine .fj rfl 2 ob1 ?_
 refine .e rfl (V:=.bool (decide (x<0))) (fun H=>by have e10:=H.g 10 3;have c1:=IntP.c0 (k:=ob1) (VP.any _ (H.was _ [] (VP.at F1 L1))) rfl;clear H;go_simp) ?_
 refine .mz rfl 2 (V:=.pointer (some ⟨b2,ob2,none⟩)) rfl ?_
 refine .nc rfl 5 ?_
 refine .fj rfl 6 ob2 ?_
 refine .e rfl (V:=.bool (decide (y<0))) (fun H=>by have e14:=H.g 14 7;have c1:=IntP.c0 (k:=ob2) (VP.any _ (H.was _ [] (VP.at F2 L2))) rfl;clear H;go_simp) ?_
 refine .e rfl (V:=.bool ((decide (x<0)) != (decide (y<0)))) (fun H=>x_bne (H.g 11 4) (H.g 15 8)) ?_
 refine .mz rfl 1 (V:=.pointer (some ⟨b1,ob1,none⟩)) rfl ?_
 refine .nc rfl 10 ?_
 refine .fj rfl 11 (ob1+1) ?_
 refine Go2.fn (i:=13) rfl (G0 rfl) (.val 13 [] (MagP x.natAbs)) (fun u μ ρ H=>by have e19:=H.g 19 12;obtain⟨v_,c1,hm_⟩:=IntP.c1 (k:=ob1+1) (VP.any _ (H.was _ [] (VP.at F1 L1))) rfl;exact⟨v_,by clear H hm_;go_simp,SP.magVal hm_⟩) ?_
 refine .mz rfl 2 (V:=.pointer (some ⟨b2,ob2,none⟩)) rfl ?_
 refine .nc rfl 14 ?_
 refine .fj rfl 15 (ob2+1) ?_
 refine Go2.fn (i:=17) rfl (G0 rfl) (.val 17 [] (MagP y.natAbs)) (fun u μ ρ H=>by have e23:=H.g 23 16;obtain⟨v_,c1,hm_⟩:=IntP.c1 (k:=ob2+1) (VP.any _ (H.was _ [] (VP.at F2 L2))) rfl;exact⟨v_,by clear H hm_;go_simp,SP.magVal hm_⟩) ?_
 refine .cR rfl [13,17] Tryz.func291 (fun H=>⟨_,ar2 (H.r 20 13) (H.r 24 17),bProduct _ _ (SV.sub [13,17] (H.a 13 rfl) rfl) (SV.sub [13,17] (H.a 17 rfl) rfl) (by omega) (by omega)⟩) ?_
 refine .dT (fun u=>pt z::.pointer (some ⟨b1,ob1,none⟩)::.pointer (some ⟨b2,ob2,none⟩)::U::U::U::u 20::sq u 0 20 []) bel.size _ rfl fun u2 w2 D=>?_
 obtain⟨x5,E2_18,F_x5⟩:∃ x_,(u2 18).v=x_∧(RawP (x.natAbs*y.natAbs)).p (Amb S W) x_ w2:=⟨_,rfl,D.rr 18⟩
 have E2_0:=D.q 0
 have E2_9:=D.q 9
 replace B_z:=D.k B_z
 replace bel:=D.d.base.only0 bel
 clear D
 refine wpT_callO (args:=#[pt z,.bool ((decide (x<0)) != (decide (y<0))),x5]) rfl (ex_call rfl rfl Tryz.func279 (by kernel_rfl) (by kernel_rfl) (by simp only [List.map_toArray,List.map_cons,List.map_nil];show #[(u2 0).v,(u2 9).v,(u2 18).v]=#[pt z,.bool ((decide (x<0)) != (decide (y<0))),x5];rw [E2_0,E2_9,E2_18])) (bIs (z:=z) (neg:=((decide (x<0)) != (decide (y<0)))) (n:=x.natAbs*y.natAbs) (IntBlk.of B_z) (VP.any _ F_x5) ) fun w6 fw6 ow6=>?_
 have sw6:Soft w2 z∨Local w2 z:=.inl ⟨_,_,B_z,rfl⟩
 replace F_x5:(RawP (x.natAbs*y.natAbs)).p (Amb S W) x5 w6:=(RawP (x.natAbs*y.natAbs)).grow (S:=fun _=>False) (Rgn.Only.growF ow6 sw6) F_x5
 have F_z:=fw6
 replace bel:=bel.trans ow6
 refine wpT_val rfl (ex_assign rfl) ?_
 refine wpList_nil ?_
 show _
 refine K4 _ _ ?_
 refine wp_ret ?_
 refine ret_ok rfl (by exact results_tmp' rfl rfl) ⟨rfl,?_,bel⟩
 exact into_eq (sgn_times x y) F_z
theorem bSign{v0:Value}(x:Int)(t0:(IntP x).p S v0 W):Calls Tryz.prog 220 #[v0] W (RetV (.int .i64 x.sign) W):=by
 obtain⟨b1,ob1,rfl,L1,F1⟩:=IntP.elim t0
 replace L1:Amb S W b1:=.inl L1
 have bel:=b0 W
 go_enter Tryz.func220,Tryz.ntmps220
 refine gs 1 (Amb S W) fun _ K2=>?_
 refine .mc rfl ?_
 refine .dk (fun u=>.pointer (some ⟨b1,ob1,none⟩)::U::u 0::us 12) K2 bel fun u1 w1 D bel=>?_
 have E1_0:=D.q 0
 replace F1:=D.o L1 F1
 clear D
 refine wp_seq_k fun _ K3=>?_
 refine wp_block ?_
 refine gs 7 (Amb S W) fun _ K4=>?_
 refine .mz rfl 0 (V:=.pointer (some ⟨b1,ob1,none⟩)) rfl ?_
 refine .nc rfl 0 ?_
 refine .fj rfl 1 (ob1+1) ?_
 refine Go2.fn (i:=3) rfl (G0 rfl) (.val 3 [] (MagP x.natAbs)) (fun u μ ρ H=>by have e6:=H.g 6 2;obtain⟨v_,c1,hm_⟩:=IntP.c1 (k:=ob1+1) (VP.any _ (H.was _ [] (VP.at F1 L1))) rfl;exact⟨v_,by clear H hm_;go_simp,SP.magVal hm_⟩) ?_
 refine Go2.fn (i:=4) rfl (G0 rfl) (.val 4 [] (LenP x.natAbs)) (fun u μ ρ H=>by have e7:=H.r 7 3;obtain⟨p_,m_,c_,hv_,hz_,hy_⟩:=Mag.open (show Mag _ _ _ from (H.a 3 rfl));rw [hv_] at e7;exact⟨_,by clear H;go_simp,SP.lenVal hz_⟩) ?_
 refine Go2.eq (i:=5) rfl (G0 rfl) (V:=.bool (decide (x.natAbs=0))) (by intro u μ ρ H;have e8:=H.r 8 4;have k1:=H.c (.int .i64 0);obtain⟨m_,hm_,z0_⟩:=(show ∃ m:Nat,_=Value.int .i64 m∧_ from (H.a 4 rfl));rw [hm_] at e8;clear H;(try generalize (x.natAbs)=n_ at *);go_simp<;>first|(simp_all;done)|omega|exact len_gt z0_|exact len_eq z0_) ?_
 refine .mv rfl 5 ?_
 refine .dk (fun u=>.pointer (some ⟨b1,ob1,none⟩)::U::u1 0::u 6::sq u 0 6 (us 5)) K4 bel fun u2 w2 D bel=>?_
 have E2_6:=D.q 6
 replace F1:=D.o L1 F1
 clear D
 rcases Bool.eq_false_or_eq_true (decide (x.natAbs=0)) with c5|c5
 ·
  refine wp_cond_true ((E2_6).trans (congrArg Value.bool c5)) ?_
  have dc5:=of_decide_eq_true c5
  refine gs 1 (Amb S W) fun _ K6=>?_
  refine .mc rfl ?_
  refine .dk (fun u=>.pointer (some ⟨b1,ob1,none⟩)::U::u 0::u2 6::sq u2 0 6 (us 5)) K6 bel fun u3 w3 D bel=>?_
  have E3_0:=D.q 0
  clear D
  exact wp_ret (rt rfl E3_0 (sign_0 dc5) bel)
 ·
  refine wp_cond_false ((E2_6).trans (congrArg Value.bool c5)) ?_
  have dc5:=of_decide_eq_false c5
  refine gs 5 (Amb S W) fun _ K7=>?_
  refine .mz rfl 0 (V:=.pointer (some ⟨b1,ob1,none⟩)) rfl ?_
  refine .nc rfl 0 ?_
  refine .fj rfl 1 ob1 ?_
  refine .e rfl (V:=.bool (decide (x<0))) (fun H=>by have e13:=H.g 13 2;have c1:=IntP.c0 (k:=ob1) (VP.any _ (H.was _ [] (VP.at F1 L1))) rfl;clear H;go_simp) ?_
  refine .mv rfl 3 ?_
  refine .dk (fun u=>.pointer (some ⟨b1,ob1,none⟩)::U::u1 0::u2 6::sq u2 0 6 (u 4::sq u 0 4 [])) K7 bel fun u4 w4 D bel=>?_
  have E4_4:=D.q 4
  clear D
  rcases Bool.eq_false_or_eq_true (decide (x<0)) with c8|c8
  ·
   refine wp_cond_true ((E4_4).trans (congrArg Value.bool c8)) ?_
   have dc8:=of_decide_eq_true c8
   refine gs 1 (Amb S W) fun _ K9=>?_
   refine .mc rfl ?_
   refine .dk (fun u=>.pointer (some ⟨b1,ob1,none⟩)::U::u 0::u2 6::sq u2 0 6 (u4 4::sq u4 0 4 [])) K9 bel fun u5 w5 D bel=>?_
   have E5_0:=D.q 0
   clear D
   exact wp_ret (rt rfl E5_0 (sign_n dc8) bel)
  ·
   refine wp_cond_false ((E4_4).trans (congrArg Value.bool c8)) ?_
   have dc8:=of_decide_eq_false c8
   refine wp_skip ?_
   refine inBlock_normal ?_
   refine K3 _ _ ?_
   refine gs 1 (Amb S W) fun _ K10=>?_
   refine .mc rfl ?_
   refine .dk (fun u=>.pointer (some ⟨b1,ob1,none⟩)::U::u 0::u2 6::sq u2 0 6 (u4 4::sq u4 0 4 [])) K10 bel fun u6 w6 D bel=>?_
   have E6_0:=D.q 0
   clear D
   exact wp_ret (rt rfl E6_0 (sign_p dc5 dc8) bel)
theorem bCmp{v0 v1:Value}(x y:Int)(t0:(IntP x).p S v0 W)(t1:(IntP y).p S v1 W)(p0:hi x+hi y≤1099511627776):Calls Tryz.prog 210 #[v0,v1] W (RetV (.int .i64 (icmp x y)) W):=by
 obtain⟨b1,ob1,rfl,L1,F1⟩:=IntP.elim t0
 replace L1:Amb S W b1:=.inl L1
 obtain⟨b2,ob2,rfl,L2,F2⟩:=IntP.elim t1
 replace L2:Amb S W b2:=.inl L2
 have q0:=hi_bl x
 have q1:=hi_bl y
 have bel:=b0 W
 go_enter Tryz.func210,Tryz.ntmps210
 rcases Bool.eq_false_or_eq_true (decide (x<0)) with c3|c3
 ·
  have dc3:=of_decide_eq_true c3
  rcases Bool.eq_false_or_eq_true (decide (y<0)) with c4|c4
  ·
   have dc4:=of_decide_eq_true c4
   refine gs 1 (Amb S W) fun _ K5=>?_
   refine .mc rfl ?_
   refine .dk (fun u=>.pointer (some ⟨b1,ob1,none⟩)::.pointer (some ⟨b2,ob2,none⟩)::U::U::u 0::us 39) K5 bel fun u1 w1 D bel=>?_
   have E1_0:=D.q 0
   replace F1:=D.o L1 F1
   replace F2:=D.o L2 F2
   clear D
   refine wp_seq_k fun _ K6=>?_
   refine wp_block ?_
   refine gs 11 (Amb S W) fun _ K7=>?_
   refine .mz rfl 0 (V:=.pointer (some ⟨b1,ob1,none⟩)) rfl ?_
   refine .nc rfl 0 ?_
   refine .fj rfl 1 ob1 ?_
   refine .e rfl (V:=.bool true) (fun H=>by have e8:=H.g 8 2;have c1:=IntP.c0 (k:=ob1) (VP.any _ (H.was _ [] (VP.at F1 L1))) rfl;have k_:=c3;clear H;go_simp) ?_
   refine .mv rfl 3 ?_
   refine .mz rfl 1 (V:=.pointer (some ⟨b2,ob2,none⟩)) rfl ?_ (hg:=gq 4 rfl)
   refine .nc rfl 5 ?_ (hg:=gq 4 rfl)
   refine .fj rfl 6 ob2 ?_ (hg:=gq 4 rfl)
   refine .e rfl (V:=.bool true) (fun H=>by have e13:=H.g 13 7;have c1:=IntP.c0 (k:=ob2) (VP.any _ (H.was _ [] (VP.at F2 L2))) rfl;have k_:=c4;clear H;go_simp) ?_ (hg:=gq 4 rfl)
   refine .e rfl (fun H=>x_pkT (H.g 10 4) (H.g 14 8)) ?_
   refine .mv rfl 9 ?_
   refine .dk (fun u=>.pointer (some ⟨b1,ob1,none⟩)::.pointer (some ⟨b2,ob2,none⟩)::U::U::u1 0::u 10::sq u 0 10 (us 28)) K7 bel fun u2 w2 D bel=>?_
   have E2_10:=D.q 10
   replace F1:=D.o L1 F1
   replace F2:=D.o L2 F2
   clear D
   refine wp_cond_true (by exact E2_10) ?_
   refine gd 10 (Amb S W) fun _ K8=>?_
   refine .mz rfl 1 (V:=.pointer (some ⟨b2,ob2,none⟩)) rfl ?_
   refine .nc rfl 0 ?_
   refine .fj rfl 1 (ob2+1) ?_
   refine Go2.fn (i:=3) rfl (G0 rfl) (.val 3 [] (MagP y.natAbs)) (fun u μ ρ H=>by have e18:=H.g 18 2;obtain⟨v_,c1,hm_⟩:=IntP.c1 (k:=ob2+1) (VP.any _ (H.was _ [] (VP.at F2 L2))) rfl;exact⟨v_,by clear H hm_;go_simp,SP.magVal hm_⟩) ?_
   refine .mz rfl 0 (V:=.pointer (some ⟨b1,ob1,none⟩)) rfl ?_
   refine .nc rfl 4 ?_
   refine .fj rfl 5 (ob1+1) ?_
   refine Go2.fn (i:=7) rfl (G0 rfl) (.val 7 [] (MagP x.natAbs)) (fun u μ ρ H=>by have e22:=H.g 22 6;obtain⟨v_,c1,hm_⟩:=IntP.c1 (k:=ob1+1) (VP.any _ (H.was _ [] (VP.at F1 L1))) rfl;exact⟨v_,by clear H hm_;go_simp,SP.magVal hm_⟩) ?_
   refine .cK rfl Tryz.func255 (fun H=>⟨_,ar2 (H.r 19 3) (H.r 23 7),bUnder _ _ (SV.any (H.a 3 rfl)) (SV.any (H.a 7 rfl))⟩) ?_
   refine .mv rfl 8 ?_
   refine .dk (fun u=>.pointer (some ⟨b1,ob1,none⟩)::.pointer (some ⟨b2,ob2,none⟩)::U::U::u 9::u2 10::sq u2 0 10 (sq u 0 9 (us 19))) K8 bel fun u3 w3 D bel=>?_
   have E3_9:=D.q 9
   clear D
   exact wp_ret (rt rfl E3_9 (icmp_nn dc3 dc4) bel)
  ·
   have dc4:=of_decide_eq_false c4
   refine gs 1 (Amb S W) fun _ K9=>?_
   refine .mc rfl ?_
   refine .dk (fun u=>.pointer (some ⟨b1,ob1,none⟩)::.pointer (some ⟨b2,ob2,none⟩)::U::U::u 0::us 39) K9 bel fun u1 w1 D bel=>?_
   have E1_0:=D.q 0
   replace F1:=D.o L1 F1
   replace F2:=D.o L2 F2
   clear D
   refine wp_seq_k fun _ K10=>?_
   refine wp_block ?_
   refine gs 11 (Amb S W) fun _ K11=>?_
   refine .mz rfl 0 (V:=.pointer (some ⟨b1,ob1,none⟩)) rfl ?_
   refine .nc rfl 0 ?_
   refine .fj rfl 1 ob1 ?_
   refine .e rfl (V:=.bool true) (fun H=>by have e8:=H.g 8 2;have c1:=IntP.c0 (k:=ob1) (VP.any _ (H.was _ [] (VP.at F1 L1))) rfl;have k_:=c3;clear H;go_simp) ?_
   refine .mv rfl 3 ?_
   refine .mz rfl 1 (V:=.pointer (some ⟨b2,ob2,none⟩)) rfl ?_ (hg:=gq 4 rfl)
   refine .nc rfl 5 ?_ (hg:=gq 4 rfl)
   refine .fj rfl 6 ob2 ?_ (hg:=gq 4 rfl)
   refine .e rfl (V:=.bool false) (fun H=>by have e13:=H.g 13 7;have c1:=IntP.c0 (k:=ob2) (VP.any _ (H.was _ [] (VP.at F2 L2))) rfl;have k_:=c4;clear H;go_simp) ?_ (hg:=gq 4 rfl)
   refine .e rfl (fun H=>x_pkT (H.g 10 4) (H.g 14 8)) ?_
   refine .mv rfl 9 ?_
   refine .dk (fun u=>.pointer (some ⟨b1,ob1,none⟩)::.pointer (some ⟨b2,ob2,none⟩)::U::U::u1 0::u 10::sq u 0 10 (us 28)) K11 bel fun u2 w2 D bel=>?_
   have E2_10:=D.q 10
   replace F1:=D.o L1 F1
   replace F2:=D.o L2 F2
   clear D
   refine wp_cond_false (by exact E2_10) ?_
   refine gs 5 (Amb S W) fun _ K12=>?_
   refine .mz rfl 0 (V:=.pointer (some ⟨b1,ob1,none⟩)) rfl ?_
   refine .nc rfl 0 ?_
   refine .fj rfl 1 ob1 ?_
   refine .e rfl (V:=.bool true) (fun H=>by have e28:=H.g 28 2;have c1:=IntP.c0 (k:=ob1) (VP.any _ (H.was _ [] (VP.at F1 L1))) rfl;have k_:=c3;clear H;go_simp) ?_
   refine .mv rfl 3 ?_
   refine .dk (fun u=>.pointer (some ⟨b1,ob1,none⟩)::.pointer (some ⟨b2,ob2,none⟩)::U::U::u1 0::u2 10::sq u2 0 10 (U::U::U::U::U::U::U::U::U::u 4::sq u 0 4 (us 14))) K12 bel fun u3 w3 D bel=>?_
   have E3_4:=D.q 4
   replace F1:=D.o L1 F1
   replace F2:=D.o L2 F2
   clear D
   refine wp_cond_true (by exact E3_4) ?_
   refine gs 1 (Amb S W) fun _ K13=>?_
   refine .mc rfl ?_
   refine .dk (fun u=>.pointer (some ⟨b1,ob1,none⟩)::.pointer (some ⟨b2,ob2,none⟩)::U::U::u 0::u2 10::sq u2 0 10 (U::U::U::U::U::U::U::U::U::u3 4::sq u3 0 4 (us 14))) K13 bel fun u4 w4 D bel=>?_
   have E4_0:=D.q 0
   clear D
   exact wp_ret (rt rfl E4_0 (icmp_np dc3 dc4) bel)
 ·
  have dc3:=of_decide_eq_false c3
  rcases Bool.eq_false_or_eq_true (decide (y<0)) with c14|c14
  ·
   have dc14:=of_decide_eq_true c14
   refine gs 1 (Amb S W) fun _ K15=>?_
   refine .mc rfl ?_
   refine .dk (fun u=>.pointer (some ⟨b1,ob1,none⟩)::.pointer (some ⟨b2,ob2,none⟩)::U::U::u 0::us 39) K15 bel fun u1 w1 D bel=>?_
   have E1_0:=D.q 0
   replace F1:=D.o L1 F1
   replace F2:=D.o L2 F2
   clear D
   refine wp_seq_k fun _ K16=>?_
   refine wp_block ?_
   refine gs 11 (Amb S W) fun _ K17=>?_
   refine .mz rfl 0 (V:=.pointer (some ⟨b1,ob1,none⟩)) rfl ?_
   refine .nc rfl 0 ?_
   refine .fj rfl 1 ob1 ?_
   refine .e rfl (V:=.bool false) (fun H=>by have e8:=H.g 8 2;have c1:=IntP.c0 (k:=ob1) (VP.any _ (H.was _ [] (VP.at F1 L1))) rfl;have k_:=c3;clear H;go_simp) ?_
   refine .mv rfl 3 ?_
   refine .sk rfl 4 ?_
   refine .sk rfl 4 ?_
   refine .sk rfl 4 ?_
   refine .sk rfl 4 ?_
   refine .e rfl (fun H=>x_pkF (H.g 10 4) (H.c _)) ?_
   refine .mv rfl 9 ?_
   refine .dk (fun u=>.pointer (some ⟨b1,ob1,none⟩)::.pointer (some ⟨b2,ob2,none⟩)::U::U::u1 0::u 10::sq u 0 10 (us 28)) K17 bel fun u2 w2 D bel=>?_
   have E2_10:=D.q 10
   replace F1:=D.o L1 F1
   replace F2:=D.o L2 F2
   clear D
   refine wp_cond_false (by exact E2_10) ?_
   refine gs 5 (Amb S W) fun _ K18=>?_
   refine .mz rfl 0 (V:=.pointer (some ⟨b1,ob1,none⟩)) rfl ?_
   refine .nc rfl 0 ?_
   refine .fj rfl 1 ob1 ?_
   refine .e rfl (V:=.bool false) (fun H=>by have e28:=H.g 28 2;have c1:=IntP.c0 (k:=ob1) (VP.any _ (H.was _ [] (VP.at F1 L1))) rfl;have k_:=c3;clear H;go_simp) ?_
   refine .mv rfl 3 ?_
   refine .dk (fun u=>.pointer (some ⟨b1,ob1,none⟩)::.pointer (some ⟨b2,ob2,none⟩)::U::U::u1 0::u2 10::sq u2 0 10 (U::U::U::U::U::U::U::U::U::u 4::sq u 0 4 (us 14))) K18 bel fun u3 w3 D bel=>?_
   have E3_4:=D.q 4
   replace F1:=D.o L1 F1
   replace F2:=D.o L2 F2
   clear D
   refine wp_cond_false (by exact E3_4) ?_
   refine gs 5 (Amb S W) fun _ K19=>?_
   refine .mz rfl 1 (V:=.pointer (some ⟨b2,ob2,none⟩)) rfl ?_
   refine .nc rfl 0 ?_
   refine .fj rfl 1 ob2 ?_
   refine .e rfl (V:=.bool true) (fun H=>by have e33:=H.g 33 2;have c1:=IntP.c0 (k:=ob2) (VP.any _ (H.was _ [] (VP.at F2 L2))) rfl;have k_:=c14;clear H;go_simp) ?_
   refine .mv rfl 3 ?_
   refine .dk (fun u=>.pointer (some ⟨b1,ob1,none⟩)::.pointer (some ⟨b2,ob2,none⟩)::U::U::u1 0::u2 10::sq u2 0 10 (U::U::U::U::U::U::U::U::U::u3 4::sq u3 0 4 (u 4::sq u 0 4 (us 9)))) K19 bel fun u4 w4 D bel=>?_
   have E4_4:=D.q 4
   replace F1:=D.o L1 F1
   replace F2:=D.o L2 F2
   clear D
   refine wp_cond_true (by exact E4_4) ?_
   refine gs 1 (Amb S W) fun _ K20=>?_
   refine .mc rfl ?_
   refine .dk (fun u=>.pointer (some ⟨b1,ob1,none⟩)::.pointer (some ⟨b2,ob2,none⟩)::U::U::u 0::u2 10::sq u2 0 10 (U::U::U::U::U::U::U::U::U::u3 4::sq u3 0 4 (u4 4::sq u4 0 4 (us 9)))) K20 bel fun u5 w5 D bel=>?_
   have E5_0:=D.q 0
   clear D
   exact wp_ret (rt rfl E5_0 (icmp_pn dc3 dc14) bel)
  ·
   have dc14:=of_decide_eq_false c14
   refine gs 1 (Amb S W) fun _ K21=>?_
   refine .mc rfl ?_
   refine .dk (fun u=>.pointer (some ⟨b1,ob1,none⟩)::.pointer (some ⟨b2,ob2,none⟩)::U::U::u 0::us 39) K21 bel fun u1 w1 D bel=>?_
   have E1_0:=D.q 0
   replace F1:=D.o L1 F1
   replace F2:=D.o L2 F2
   clear D
   refine wp_seq_k fun _ K22=>?_
   refine wp_block ?_
   refine gs 11 (Amb S W) fun _ K23=>?_
   refine .mz rfl 0 (V:=.pointer (some ⟨b1,ob1,none⟩)) rfl ?_
   refine .nc rfl 0 ?_
   refine .fj rfl 1 ob1 ?_
   refine .e rfl (V:=.bool false) (fun H=>by have e8:=H.g 8 2;have c1:=IntP.c0 (k:=ob1) (VP.any _ (H.was _ [] (VP.at F1 L1))) rfl;have k_:=c3;clear H;go_simp) ?_
   refine .mv rfl 3 ?_
   refine .sk rfl 4 ?_
   refine .sk rfl 4 ?_
   refine .sk rfl 4 ?_
   refine .sk rfl 4 ?_
   refine .e rfl (fun H=>x_pkF (H.g 10 4) (H.c _)) ?_
   refine .mv rfl 9 ?_
   refine .dk (fun u=>.pointer (some ⟨b1,ob1,none⟩)::.pointer (some ⟨b2,ob2,none⟩)::U::U::u1 0::u 10::sq u 0 10 (us 28)) K23 bel fun u2 w2 D bel=>?_
   have E2_10:=D.q 10
   replace F1:=D.o L1 F1
   replace F2:=D.o L2 F2
   clear D
   refine wp_cond_false (by exact E2_10) ?_
   refine gs 5 (Amb S W) fun _ K24=>?_
   refine .mz rfl 0 (V:=.pointer (some ⟨b1,ob1,none⟩)) rfl ?_
   refine .nc rfl 0 ?_
   refine .fj rfl 1 ob1 ?_
   refine .e rfl (V:=.bool false) (fun H=>by have e28:=H.g 28 2;have c1:=IntP.c0 (k:=ob1) (VP.any _ (H.was _ [] (VP.at F1 L1))) rfl;have k_:=c3;clear H;go_simp) ?_
   refine .mv rfl 3 ?_
   refine .dk (fun u=>.pointer (some ⟨b1,ob1,none⟩)::.pointer (some ⟨b2,ob2,none⟩)::U::U::u1 0::u2 10::sq u2 0 10 (U::U::U::U::U::U::U::U::U::u 4::sq u 0 4 (us 14))) K24 bel fun u3 w3 D bel=>?_
   have E3_4:=D.q 4
   replace F1:=D.o L1 F1
   replace F2:=D.o L2 F2
   clear D
   refine wp_cond_false (by exact E3_4) ?_
   refine gs 5 (Amb S W) fun _ K25=>?_
   refine .mz rfl 1 (V:=.pointer (some ⟨b2,ob2,none⟩)) rfl ?_
   refine .nc rfl 0 ?_
   refine .fj rfl 1 ob2 ?_
   refine .e rfl (V:=.bool false) (fun H=>by have e33:=H.g 33 2;have c1:=IntP.c0 (k:=ob2) (VP.any _ (H.was _ [] (VP.at F2 L2))) rfl;have k_:=c14;clear H;go_simp) ?_
   refine .mv rfl 3 ?_
   refine .dk (fun u=>.pointer (some ⟨b1,ob1,none⟩)::.pointer (some ⟨b2,ob2,none⟩)::U::U::u1 0::u2 10::sq u2 0 10 (U::U::U::U::U::U::U::U::U::u3 4::sq u3 0 4 (u 4::sq u 0 4 (us 9)))) K25 bel fun u4 w4 D bel=>?_
   have E4_4:=D.q 4
   replace F1:=D.o L1 F1
   replace F2:=D.o L2 F2
   clear D
   refine wp_cond_false (by exact E4_4) ?_
   refine wp_skip ?_
   refine inBlock_normal ?_
   refine K22 _ _ ?_
   refine gd 10 (Amb S W) fun _ K26=>?_
   refine .mz rfl 0 (V:=.pointer (some ⟨b1,ob1,none⟩)) rfl ?_
   refine .nc rfl 0 ?_
   refine .fj rfl 1 (ob1+1) ?_
   refine Go2.fn (i:=3) rfl (G0 rfl) (.val 3 [] (MagP x.natAbs)) (fun u μ ρ H=>by have e37:=H.g 37 2;obtain⟨v_,c1,hm_⟩:=IntP.c1 (k:=ob1+1) (VP.any _ (H.was _ [] (VP.at F1 L1))) rfl;exact⟨v_,by clear H hm_;go_simp,SP.magVal hm_⟩) ?_
   refine .mz rfl 1 (V:=.pointer (some ⟨b2,ob2,none⟩)) rfl ?_
   refine .nc rfl 4 ?_
   refine .fj rfl 5 (ob2+1) ?_
   refine Go2.fn (i:=7) rfl (G0 rfl) (.val 7 [] (MagP y.natAbs)) (fun u μ ρ H=>by have e41:=H.g 41 6;obtain⟨v_,c1,hm_⟩:=IntP.c1 (k:=ob2+1) (VP.any _ (H.was _ [] (VP.at F2 L2))) rfl;exact⟨v_,by clear H hm_;go_simp,SP.magVal hm_⟩) ?_
   refine .cK rfl Tryz.func255 (fun H=>⟨_,ar2 (H.r 38 3) (H.r 42 7),bUnder _ _ (SV.any (H.a 3 rfl)) (SV.any (H.a 7 rfl))⟩) ?_
   refine .mv rfl 8 ?_
   refine .dk (fun u=>.pointer (some ⟨b1,ob1,none⟩)::.pointer (some ⟨b2,ob2,none⟩)::U::U::u 9::u2 10::sq u2 0 10 (U::U::U::U::U::U::U::U::U::u3 4::sq u3 0 4 (u4 4::sq u4 0 4 (sq u 0 9 [])))) K26 bel fun u5 w5 D bel=>?_
   have E5_9:=D.q 9
   clear D
   exact wp_ret (rt rfl E5_9 (icmp_pp dc3 dc14) bel)
theorem badd{z:Nat}{v1 v2:Value}(x y:Int)(s:Bool)(hz:IntBlk W z)(t1:(IntP x).p S v1 W)(t2:(IntP y).p S v2 W)(p0:hi x+hi y≤1099511627776):Calls Tryz.prog 257 #[.pointer (some ⟨z,0,none⟩),v1,v2,.bool s] W (RetOwn z (IntO (x+sgn s y.natAbs)) W):=by
 have hS_:∃ S' : Nat→Prop,S' z∧(IntP x).p S' v1 W∧(IntP y).p S' v2 W:=⟨fun k=>S k∨k=z,.inr rfl,(IntP x).mono (fun _ _ h=>.inl h) t1,(IntP y).mono (fun _ _ h=>.inl h) t2⟩
 clear t1 t2
 obtain⟨S,L_z,t1,t2⟩:=hS_
 replace L_z:Amb S W z:=.inl L_z
 obtain⟨z_0,z_1,B_z⟩:=hz
 obtain⟨b1,ob1,rfl,L1,F1⟩:=IntP.elim t1
 replace L1:Amb S W b1:=.inl L1
 obtain⟨b2,ob2,rfl,L2,F2⟩:=IntP.elim t2
 replace L2:Amb S W b2:=.inl L2
 have q0:=hi_bl x
 have q1:=hi_bl y
 have bel:Only z W W:=Only.refl _ _
 go_enter Tryz.func257,Tryz.ntmps257
 refine gs 1 (Amb S W) fun _ K3=>?_
 refine .mc rfl ?_
 refine .dg (fun u=>pt z::.pointer (some ⟨b1,ob1,none⟩)::.pointer (some ⟨b2,ob2,none⟩)::.bool s::U::U::U::U::u 0::us 57) K3 bel.size fun u1 w1 D=>?_
 have E1_0:=D.q 0
 replace B_z:=D.k B_z
 replace F1:=D.o L1 F1
 replace F2:=D.o L2 F2
 replace bel:=D.d.base.only0 bel
 clear D
 refine wp_seq_k fun _ K4=>?_
 refine wp_block ?_
 refine gs 7 (Amb S W) fun _ K5=>?_
 refine .mz rfl 1 (V:=.pointer (some ⟨b1,ob1,none⟩)) rfl ?_
 refine .nc rfl 0 ?_
 refine .fj rfl 1 ob1 ?_
 refine .e rfl (V:=.bool (decide (x<0))) (fun H=>by have e12:=H.g 12 2;have c1:=IntP.c0 (k:=ob1) (VP.any _ (H.was _ [] (VP.at F1 L1))) rfl;clear H;go_simp) ?_
 refine .mz rfl 3 (V:=.bool s) rfl ?_
 refine .e rfl (V:=.bool ((decide (x<0)) == s)) (fun H=>x_beq (H.g 13 3) (H.g 14 4)) ?_
 refine .mv rfl 5 ?_
 refine .dg (fun u=>pt z::.pointer (some ⟨b1,ob1,none⟩)::.pointer (some ⟨b2,ob2,none⟩)::.bool s::U::U::U::U::u1 0::u 6::sq u 0 6 (us 50)) K5 bel.size fun u2 w2 D=>?_
 have E2_6:=D.q 6
 replace B_z:=D.k B_z
 replace F1:=D.o L1 F1
 replace F2:=D.o L2 F2
 replace bel:=D.d.base.only0 bel
 clear D
 rcases Bool.eq_false_or_eq_true ((decide (x<0)) == s) with c6|c6
 ·
  refine wp_cond_true ((E2_6).trans (congrArg Value.bool c6)) ?_
  refine wp_seq_k fun _ K7=>?_
  refine go2_drawnT (by kernel_rfl) 11 2 rfl (by decide) (by kernel_rfl) (Amb S W) [] [] (Olds.nil _) (by kernel_rfl) ?_
  refine .mz rfl 0 (V:=pt z) rfl ?_
  refine .mz rfl 3 (V:=.bool s) rfl ?_
  refine .mz rfl 1 (V:=.pointer (some ⟨b1,ob1,none⟩)) rfl ?_
  refine .nc rfl 2 ?_
  refine .fj rfl 3 (ob1+1) ?_
  refine Go2.fn (i:=5) rfl (G0 rfl) (.val 5 [] (MagP x.natAbs)) (fun u μ ρ H=>by have e20:=H.g 20 4;obtain⟨v_,c1,hm_⟩:=IntP.c1 (k:=ob1+1) (VP.any _ (H.was _ [] (VP.at F1 L1))) rfl;exact⟨v_,by clear H hm_;go_simp,SP.magVal hm_⟩) ?_
  refine .mz rfl 2 (V:=.pointer (some ⟨b2,ob2,none⟩)) rfl ?_
  refine .nc rfl 6 ?_
  refine .fj rfl 7 (ob2+1) ?_
  refine Go2.fn (i:=9) rfl (G0 rfl) (.val 9 [] (MagP y.natAbs)) (fun u μ ρ H=>by have e24:=H.g 24 8;obtain⟨v_,c1,hm_⟩:=IntP.c1 (k:=ob2+1) (VP.any _ (H.was _ [] (VP.at F2 L2))) rfl;exact⟨v_,by clear H hm_;go_simp,SP.magVal hm_⟩) ?_
  refine .cR rfl [5,9] Tryz.func298 (fun H=>⟨_,ar2 (H.r 21 5) (H.r 25 9),bMore _ _ (SV.sub [5,9] (H.a 5 rfl) rfl) (SV.sub [5,9] (H.a 9 rfl) rfl) (by first|omega|exact cmp3_ge_le dx_x|exact cmp3_nge_le dx_x) (by first|omega|exact cmp3_ge_le dx_x|exact cmp3_nge_le dx_x)⟩) ?_
  refine .dT (fun u=>pt z::.pointer (some ⟨b1,ob1,none⟩)::.pointer (some ⟨b2,ob2,none⟩)::.bool s::U::U::U::U::u 12::u2 6::sq u2 0 6 (sq u 0 12 (us 38))) bel.size _ rfl fun u3 w3 D=>?_
  obtain⟨x8,E3_10,F_x8⟩:∃ x_,(u3 10).v=x_∧(RawP (x.natAbs+y.natAbs)).p (Amb S W) x_ w3:=⟨_,rfl,D.rr 10⟩
  have E3_0:=D.q 0
  have E3_1:=D.q 1
  replace B_z:=D.k B_z
  replace bel:=D.d.base.only0 bel
  clear D
  refine wpT_callO (args:=#[pt z,.bool s,x8]) rfl (ex_call rfl rfl Tryz.func279 (by kernel_rfl) (by kernel_rfl) (by simp only [List.map_toArray,List.map_cons,List.map_nil];show #[(u3 0).v,(u3 1).v,(u3 10).v]=#[pt z,.bool s,x8];rw [E3_0,E3_1,E3_10])) (bIs (z:=z) (neg:=s) (n:=x.natAbs+y.natAbs) (IntBlk.of B_z) (VP.any _ F_x8) ) fun w9 fw9 ow9=>?_
  have sw9:Soft w3 z∨Local w3 z:=.inl ⟨_,_,B_z,rfl⟩
  replace F_x8:(RawP (x.natAbs+y.natAbs)).p (Amb S W) x8 w9:=(RawP (x.natAbs+y.natAbs)).grow (S:=fun _=>False) (Rgn.Only.growF ow9 sw9) F_x8
  have F_z:=fw9
  replace bel:=bel.trans ow9
  refine wpT_val rfl (ex_assign rfl) ?_
  refine wpList_nil ?_
  show _
  refine K7 _ _ ?_
  refine wp_ret ?_
  refine ret_ok rfl (by exact results_tmp' rfl rfl) ⟨rfl,?_,bel⟩
  exact into_eq (add_1 c6) F_z
 ·
  refine wp_cond_false ((E2_6).trans (congrArg Value.bool c6)) ?_
  refine gd 11 (Amb S W) fun _ K10=>?_
  refine .mz rfl 1 (V:=.pointer (some ⟨b1,ob1,none⟩)) rfl ?_
  refine .nc rfl 0 ?_
  refine .fj rfl 1 (ob1+1) ?_
  refine Go2.fn (i:=3) rfl (G0 rfl) (.val 3 [] (MagP x.natAbs)) (fun u μ ρ H=>by have e31:=H.g 31 2;obtain⟨v_,c1,hm_⟩:=IntP.c1 (k:=ob1+1) (VP.any _ (H.was _ [] (VP.at F1 L1))) rfl;exact⟨v_,by clear H hm_;go_simp,SP.magVal hm_⟩) ?_
  refine .mz rfl 2 (V:=.pointer (some ⟨b2,ob2,none⟩)) rfl ?_
  refine .nc rfl 4 ?_
  refine .fj rfl 5 (ob2+1) ?_
  refine Go2.fn (i:=7) rfl (G0 rfl) (.val 7 [] (MagP y.natAbs)) (fun u μ ρ H=>by have e35:=H.g 35 6;obtain⟨v_,c1,hm_⟩:=IntP.c1 (k:=ob2+1) (VP.any _ (H.was _ [] (VP.at F2 L2))) rfl;exact⟨v_,by clear H hm_;go_simp,SP.magVal hm_⟩) ?_
  refine .cK rfl Tryz.func255 (fun H=>⟨_,ar2 (H.r 32 3) (H.r 36 7),bUnder _ _ (SV.any (H.a 3 rfl)) (SV.any (H.a 7 rfl))⟩) ?_
  refine .e rfl (V:=.bool (decide (0≤(cmp3 x.natAbs y.natAbs)))) (fun H=>x_cmp (H.g 37 8) (H.c _)) ?_
  refine .mv rfl 9 ?_
  refine .dg (fun u=>pt z::.pointer (some ⟨b1,ob1,none⟩)::.pointer (some ⟨b2,ob2,none⟩)::.bool s::U::U::U::U::u1 0::u2 6::sq u2 0 6 (U::U::U::U::U::U::U::U::U::U::U::U::u 10::sq u 0 10 (us 27))) K10 bel.size fun u4 w4 D=>?_
  have E4_10:=D.q 10
  replace B_z:=D.k B_z
  replace F1:=D.o L1 F1
  replace F2:=D.o L2 F2
  replace bel:=D.d.base.only0 bel
  clear D
  rcases Bool.eq_false_or_eq_true (decide (0≤(cmp3 x.natAbs y.natAbs))) with c11|c11
  ·
   refine wp_cond_true ((E4_10).trans (congrArg Value.bool c11)) ?_
   have dc11:=of_decide_eq_true c11
   refine wp_seq_k fun _ K12=>?_
   refine go2_drawnT (by kernel_rfl) 14 2 rfl (by decide) (by kernel_rfl) (Amb S W) [] [] (Olds.nil _) (by kernel_rfl) ?_
   refine .mz rfl 0 (V:=pt z) rfl ?_
   refine .mz rfl 1 (V:=.pointer (some ⟨b1,ob1,none⟩)) rfl ?_
   refine .nc rfl 1 ?_
   refine .fj rfl 2 ob1 ?_
   refine .e rfl (V:=.bool (decide (x<0))) (fun H=>by have e42:=H.g 42 3;have c1:=IntP.c0 (k:=ob1) (VP.any _ (H.was _ [] (VP.at F1 L1))) rfl;clear H;go_simp) ?_
   refine .mz rfl 1 (V:=.pointer (some ⟨b1,ob1,none⟩)) rfl ?_
   refine .nc rfl 5 ?_
   refine .fj rfl 6 (ob1+1) ?_
   refine Go2.fn (i:=8) rfl (G0 rfl) (.val 8 [] (MagP x.natAbs)) (fun u μ ρ H=>by have e46:=H.g 46 7;obtain⟨v_,c1,hm_⟩:=IntP.c1 (k:=ob1+1) (VP.any _ (H.was _ [] (VP.at F1 L1))) rfl;exact⟨v_,by clear H hm_;go_simp,SP.magVal hm_⟩) ?_
   refine .mz rfl 2 (V:=.pointer (some ⟨b2,ob2,none⟩)) rfl ?_
   refine .nc rfl 9 ?_
   refine .fj rfl 10 (ob2+1) ?_
   refine Go2.fn (i:=12) rfl (G0 rfl) (.val 12 [] (MagP y.natAbs)) (fun u μ ρ H=>by have e50:=H.g 50 11;obtain⟨v_,c1,hm_⟩:=IntP.c1 (k:=ob2+1) (VP.any _ (H.was _ [] (VP.at F2 L2))) rfl;exact⟨v_,by clear H hm_;go_simp,SP.magVal hm_⟩) ?_
   refine .cR rfl [8,12] Tryz.func299 (fun H=>⟨_,ar2 (H.r 47 8) (H.r 51 12),bLess _ _ (SV.sub [8,12] (H.a 8 rfl) rfl) (SV.sub [8,12] (H.a 12 rfl) rfl) (by first|omega|exact cmp3_ge_le dc11|exact cmp3_nge_le dc11) (by first|omega|exact cmp3_ge_le dc11|exact cmp3_nge_le dc11)⟩) ?_
   refine .dT (fun u=>pt z::.pointer (some ⟨b1,ob1,none⟩)::.pointer (some ⟨b2,ob2,none⟩)::.bool s::U::U::U::U::u 15::u2 6::sq u2 0 6 (U::U::U::U::U::U::U::U::U::U::U::U::u4 10::sq u4 0 10 (sq u 0 15 (us 12)))) bel.size _ rfl fun u5 w5 D=>?_
   obtain⟨x13,E5_13,F_x13⟩:∃ x_,(u5 13).v=x_∧(RawP (x.natAbs-y.natAbs)).p (Amb S W) x_ w5:=⟨_,rfl,D.rr 13⟩
   have E5_0:=D.q 0
   have E5_4:=D.q 4
   replace B_z:=D.k B_z
   replace bel:=D.d.base.only0 bel
   clear D
   refine wpT_callO (args:=#[pt z,.bool (decide (x<0)),x13]) rfl (ex_call rfl rfl Tryz.func279 (by kernel_rfl) (by kernel_rfl) (by simp only [List.map_toArray,List.map_cons,List.map_nil];show #[(u5 0).v,(u5 4).v,(u5 13).v]=#[pt z,.bool (decide (x<0)),x13];rw [E5_0,E5_4,E5_13])) (bIs (z:=z) (neg:=(decide (x<0))) (n:=x.natAbs-y.natAbs) (IntBlk.of B_z) (VP.any _ F_x13) ) fun w14 fw14 ow14=>?_
   have sw14:Soft w5 z∨Local w5 z:=.inl ⟨_,_,B_z,rfl⟩
   replace F_x13:(RawP (x.natAbs-y.natAbs)).p (Amb S W) x13 w14:=(RawP (x.natAbs-y.natAbs)).grow (S:=fun _=>False) (Rgn.Only.growF ow14 sw14) F_x13
   have F_z:=fw14
   replace bel:=bel.trans ow14
   refine wpT_val rfl (ex_assign rfl) ?_
   refine wpList_nil ?_
   show _
   refine K12 _ _ ?_
   refine wp_ret ?_
   refine ret_ok rfl (by exact results_tmp' rfl rfl) ⟨rfl,?_,bel⟩
   exact into_eq (add_2 c6 dc11) F_z
  ·
   refine wp_cond_false ((E4_10).trans (congrArg Value.bool c11)) ?_
   have dc11:=of_decide_eq_false c11
   refine wp_skip ?_
   refine inBlock_normal ?_
   refine K4 _ _ ?_
   refine wp_seq_k fun _ K15=>?_
   refine go2_drawnT (by kernel_rfl) 11 2 rfl (by decide) (by kernel_rfl) (Amb S W) [] [] (Olds.nil _) (by kernel_rfl) ?_
   refine .mz rfl 0 (V:=pt z) rfl ?_
   refine .mz rfl 3 (V:=.bool s) rfl ?_
   refine .mz rfl 2 (V:=.pointer (some ⟨b2,ob2,none⟩)) rfl ?_
   refine .nc rfl 2 ?_
   refine .fj rfl 3 (ob2+1) ?_
   refine Go2.fn (i:=5) rfl (G0 rfl) (.val 5 [] (MagP y.natAbs)) (fun u μ ρ H=>by have e58:=H.g 58 4;obtain⟨v_,c1,hm_⟩:=IntP.c1 (k:=ob2+1) (VP.any _ (H.was _ [] (VP.at F2 L2))) rfl;exact⟨v_,by clear H hm_;go_simp,SP.magVal hm_⟩) ?_
   refine .mz rfl 1 (V:=.pointer (some ⟨b1,ob1,none⟩)) rfl ?_
   refine .nc rfl 6 ?_
   refine .fj rfl 7 (ob1+1) ?_
   refine Go2.fn (i:=9) rfl (G0 rfl) (.val 9 [] (MagP x.natAbs)) (fun u μ ρ H=>by have e62:=H.g 62 8;obtain⟨v_,c1,hm_⟩:=IntP.c1 (k:=ob1+1) (VP.any _ (H.was _ [] (VP.at F1 L1))) rfl;exact⟨v_,by clear H hm_;go_simp,SP.magVal hm_⟩) ?_
   refine .cR rfl [5,9] Tryz.func299 (fun H=>⟨_,ar2 (H.r 59 5) (H.r 63 9),bLess _ _ (SV.sub [5,9] (H.a 5 rfl) rfl) (SV.sub [5,9] (H.a 9 rfl) rfl) (by first|omega|exact cmp3_ge_le dc11|exact cmp3_nge_le dc11) (by first|omega|exact cmp3_ge_le dc11|exact cmp3_nge_le dc11)⟩) ?_
   refine .dT (fun u=>pt z::.pointer (some ⟨b1,ob1,none⟩)::.pointer (some ⟨b2,ob2,none⟩)::.bool s::U::U::U::U::u 12::u2 6::sq u2 0 6 (U::U::U::U::U::U::U::U::U::U::U::U::u4 10::sq u4 0 10 (U::U::U::U::U::U::U::U::U::U::U::U::U::U::U::sq u 0 12 []))) bel.size _ rfl fun u6 w6 D=>?_
   obtain⟨x16,E6_10,F_x16⟩:∃ x_,(u6 10).v=x_∧(RawP (y.natAbs-x.natAbs)).p (Amb S W) x_ w6:=⟨_,rfl,D.rr 10⟩
   have E6_0:=D.q 0
   have E6_1:=D.q 1
   replace B_z:=D.k B_z
   replace bel:=D.d.base.only0 bel
   clear D
   refine wpT_callO (args:=#[pt z,.bool s,x16]) rfl (ex_call rfl rfl Tryz.func279 (by kernel_rfl) (by kernel_rfl) (by simp only [List.map_toArray,List.map_cons,List.map_nil];show #[(u6 0).v,(u6 1).v,(u6 10).v]=#[pt z,.bool s,x16];rw [E6_0,E6_1,E6_10])) (bIs (z:=z) (neg:=s) (n:=y.natAbs-x.natAbs) (IntBlk.of B_z) (VP.any _ F_x16) ) fun w17 fw17 ow17=>?_
   have sw17:Soft w6 z∨Local w6 z:=.inl ⟨_,_,B_z,rfl⟩
   replace F_x16:(RawP (y.natAbs-x.natAbs)).p (Amb S W) x16 w17:=(RawP (y.natAbs-x.natAbs)).grow (S:=fun _=>False) (Rgn.Only.growF ow17 sw17) F_x16
   have F_z:=fw17
   replace bel:=bel.trans ow17
   refine wpT_val rfl (ex_assign rfl) ?_
   refine wpList_nil ?_
   show _
   refine K15 _ _ ?_
   refine wp_ret ?_
   refine ret_ok rfl (by exact results_tmp' rfl rfl) ⟨rfl,?_,bel⟩
   exact into_eq (add_3 c6 dc11) F_z
theorem bAdd{z:Nat}{v1 v2:Value}(x y:Int)(hz:IntBlk W z)(t1:(IntP x).p S v1 W)(t2:(IntP y).p S v2 W)(p0:hi x+hi y≤1099511627776):Calls Tryz.prog 149 #[.pointer (some ⟨z,0,none⟩),v1,v2] W (RetOwn z (IntO (x+y)) W):=by
 have hS_:∃ S' : Nat→Prop,S' z∧(IntP x).p S' v1 W∧(IntP y).p S' v2 W:=⟨fun k=>S k∨k=z,.inr rfl,(IntP x).mono (fun _ _ h=>.inl h) t1,(IntP y).mono (fun _ _ h=>.inl h) t2⟩
 clear t1 t2
 obtain⟨S,L_z,t1,t2⟩:=hS_
 replace L_z:Amb S W z:=.inl L_z
 obtain⟨z_0,z_1,B_z⟩:=hz
 obtain⟨b1,ob1,rfl,L1,F1⟩:=IntP.elim t1
 replace L1:Amb S W b1:=.inl L1
 obtain⟨b2,ob2,rfl,L2,F2⟩:=IntP.elim t2
 replace L2:Amb S W b2:=.inl L2
 have bel:Only z W W:=Only.refl _ _
 go_enter Tryz.func149,Tryz.ntmps149
 refine gs 1 (Amb S W) fun _ K3=>?_
 refine .mc rfl ?_
 refine .dg (fun u=>pt z::.pointer (some ⟨b1,ob1,none⟩)::.pointer (some ⟨b2,ob2,none⟩)::U::U::U::u 0::us 8) K3 bel.size fun u1 w1 D=>?_
 have E1_0:=D.q 0
 replace B_z:=D.k B_z
 replace F1:=D.o L1 F1
 replace F2:=D.o L2 F2
 replace bel:=D.d.base.only0 bel
 clear D
 refine wp_seq_k fun _ K4=>?_
 refine go2_seqT 7 2 rfl (Amb S W) [] [] (Olds.nil _) (by kernel_rfl) ?_
 refine .mz rfl 0 (V:=pt z) rfl ?_
 refine .mz rfl 1 (V:=.pointer (some ⟨b1,ob1,none⟩)) rfl ?_
 refine .mz rfl 2 (V:=.pointer (some ⟨b2,ob2,none⟩)) rfl ?_
 refine .mz rfl 2 (V:=.pointer (some ⟨b2,ob2,none⟩)) rfl ?_
 refine .nc rfl 3 ?_
 refine .fj rfl 4 ob2 ?_
 refine .e rfl (V:=.bool (decide (y<0))) (fun H=>by have e12:=H.g 12 5;have c1:=IntP.c0 (k:=ob2) (VP.any _ (H.was _ [] (VP.at F2 L2))) rfl;clear H;go_simp) ?_
 refine .dT (fun u=>pt z::.pointer (some ⟨b1,ob1,none⟩)::.pointer (some ⟨b2,ob2,none⟩)::U::U::U::u 8::sq u 0 8 []) bel.size _ rfl fun u2 w2 D=>?_
 have E2_0:=D.q 0
 have E2_1:=D.q 1
 have E2_2:=D.q 2
 have E2_6:=D.q 6
 replace B_z:=D.k B_z
 replace F1:=D.o L1 F1
 replace F2:=D.o L2 F2
 replace bel:=D.d.base.only0 bel
 clear D
 refine wpT_callO (args:=#[pt z,.pointer (some ⟨b1,ob1,none⟩),.pointer (some ⟨b2,ob2,none⟩),.bool (decide (y<0))]) rfl (ex_call rfl rfl Tryz.func257 (by kernel_rfl) (by kernel_rfl) (by simp only [List.map_toArray,List.map_cons,List.map_nil];show #[(u2 0).v,(u2 1).v,(u2 2).v,(u2 6).v]=#[pt z,.pointer (some ⟨b1,ob1,none⟩),.pointer (some ⟨b2,ob2,none⟩),.bool (decide (y<0))];rw [E2_0,E2_1,E2_2,E2_6])) (badd (z:=z) (x:=x) (y:=y) (s:=(decide (y<0))) (IntBlk.of B_z) (VP.any _ F1) (VP.any _ F2) (by omega)) fun w5 fw5 ow5=>?_
 have sw5:Soft w2 z∨Local w2 z:=.inl ⟨_,_,B_z,rfl⟩
 have F_z:=fw5
 replace bel:=bel.trans ow5
 refine wpT_val rfl (ex_assign rfl) ?_
 refine wpList_nil ?_
 show _
 refine K4 _ _ ?_
 refine wp_ret ?_
 refine ret_ok rfl (by exact results_tmp' rfl rfl) ⟨rfl,?_,bel⟩
 exact into_eq (add_p x y) F_z
theorem bSub{z:Nat}{v1 v2:Value}(x y:Int)(hz:IntBlk W z)(t1:(IntP x).p S v1 W)(t2:(IntP y).p S v2 W)(p0:hi x+hi y≤1099511627776):Calls Tryz.prog 254 #[.pointer (some ⟨z,0,none⟩),v1,v2] W (RetOwn z (IntO (x-y)) W):=by
 have hS_:∃ S' : Nat→Prop,S' z∧(IntP x).p S' v1 W∧(IntP y).p S' v2 W:=⟨fun k=>S k∨k=z,.inr rfl,(IntP x).mono (fun _ _ h=>.inl h) t1,(IntP y).mono (fun _ _ h=>.inl h) t2⟩
 clear t1 t2
 obtain⟨S,L_z,t1,t2⟩:=hS_
 replace L_z:Amb S W z:=.inl L_z
 obtain⟨z_0,z_1,B_z⟩:=hz
 obtain⟨b1,ob1,rfl,L1,F1⟩:=IntP.elim t1
 replace L1:Amb S W b1:=.inl L1
 obtain⟨b2,ob2,rfl,L2,F2⟩:=IntP.elim t2
 replace L2:Amb S W b2:=.inl L2
 have bel:Only z W W:=Only.refl _ _
 go_enter Tryz.func254,Tryz.ntmps254
 refine gs 1 (Amb S W) fun _ K3=>?_
 refine .mc rfl ?_
 refine .dg (fun u=>pt z::.pointer (some ⟨b1,ob1,none⟩)::.pointer (some ⟨b2,ob2,none⟩)::U::U::U::u 0::us 9) K3 bel.size fun u1 w1 D=>?_
 have E1_0:=D.q 0
 replace B_z:=D.k B_z
 replace F1:=D.o L1 F1
 replace F2:=D.o L2 F2
 replace bel:=D.d.base.only0 bel
 clear D
 refine wp_seq_k fun _ K4=>?_
 refine go2_seqT 8 2 rfl (Amb S W) [] [] (Olds.nil _) (by kernel_rfl) ?_
 refine .mz rfl 0 (V:=pt z) rfl ?_
 refine .mz rfl 1 (V:=.pointer (some ⟨b1,ob1,none⟩)) rfl ?_
 refine .mz rfl 2 (V:=.pointer (some ⟨b2,ob2,none⟩)) rfl ?_
 refine .mz rfl 2 (V:=.pointer (some ⟨b2,ob2,none⟩)) rfl ?_
 refine .nc rfl 3 ?_
 refine .fj rfl 4 ob2 ?_
 refine .e rfl (V:=.bool (decide (y<0))) (fun H=>by have e12:=H.g 12 5;have c1:=IntP.c0 (k:=ob2) (VP.any _ (H.was _ [] (VP.at F2 L2))) rfl;clear H;go_simp) ?_
 refine .e rfl (V:=.bool (!(decide (y<0)))) (fun H=>x_not (H.g 13 6)) ?_
 refine .dT (fun u=>pt z::.pointer (some ⟨b1,ob1,none⟩)::.pointer (some ⟨b2,ob2,none⟩)::U::U::U::u 9::sq u 0 9 []) bel.size _ rfl fun u2 w2 D=>?_
 have E2_0:=D.q 0
 have E2_1:=D.q 1
 have E2_2:=D.q 2
 have E2_7:=D.q 7
 replace B_z:=D.k B_z
 replace F1:=D.o L1 F1
 replace F2:=D.o L2 F2
 replace bel:=D.d.base.only0 bel
 clear D
 refine wpT_callO (args:=#[pt z,.pointer (some ⟨b1,ob1,none⟩),.pointer (some ⟨b2,ob2,none⟩),.bool (!(decide (y<0)))]) rfl (ex_call rfl rfl Tryz.func257 (by kernel_rfl) (by kernel_rfl) (by simp only [List.map_toArray,List.map_cons,List.map_nil];show #[(u2 0).v,(u2 1).v,(u2 2).v,(u2 7).v]=#[pt z,.pointer (some ⟨b1,ob1,none⟩),.pointer (some ⟨b2,ob2,none⟩),.bool (!(decide (y<0)))];rw [E2_0,E2_1,E2_2,E2_7])) (badd (z:=z) (x:=x) (y:=y) (s:=(!(decide (y<0)))) (IntBlk.of B_z) (VP.any _ F1) (VP.any _ F2) (by omega)) fun w5 fw5 ow5=>?_
 have sw5:Soft w2 z∨Local w2 z:=.inl ⟨_,_,B_z,rfl⟩
 have F_z:=fw5
 replace bel:=bel.trans ow5
 refine wpT_val rfl (ex_assign rfl) ?_
 refine wpList_nil ?_
 show _
 refine K4 _ _ ?_
 refine wp_ret ?_
 refine ret_ok rfl (by exact results_tmp' rfl rfl) ⟨rfl,?_,bel⟩
 exact into_eq (add_m x y) F_z
end Go.Proofs.YtcdbmjnipaochaaGreat
namespace Go.Proofs.YtcdbmjnipaochaaGreat
open Go.RowKit Rgn
theorem append_words(ty:TypeId){w:World}{v:Value}{l:List Nat}(h:Words w v l)(hl:l.length≤34359738368):∃ v' w', (Builtin.append_ #[208,208] ty #[.slice none 0 0,v]).run Tryz.prog w=.ok v' w'∧Words w' v' l∧Below w.heap.size w w' := by
 obtain⟨i0,hi,hz0,hz1,hz2⟩:=info_parts info_u32
 rcases h with⟨rfl,rfl⟩|⟨b,off,cap,cur,fr,rfl,h2,h3,h4,h5⟩
 ·refine⟨.slice none 0 0,w,?_,.inl ⟨rfl,rfl⟩,Below.refl _ _⟩
  simp [Builtin.append_,run_underlying Tryz.underlying208,sizeOf,typeInfo,hi,Builtin.lenOf,Builtin.firstCells]
 ·have hnews:∀ j u,(l.map fun (x:Nat)=>Value.int .u32 (x:Int))[j]? = some u→w.cell? ((⟨b,off,none⟩:Addr).add j)=some u:=by
   intro j u hj
   rw [List.getElem?_map] at hj
   cases hx:l[j]? with
   | none=>rw [hx] at hj;simp at hj
   | some x =>
    rw [hx] at hj
    simp only [Option.map_some,Option.some.injEq] at hj
    subst hj
    rw [Addr.add_lit]
    simp [World.cell?,h2,(h5 j x hx).1]
  obtain⟨v', w', hrun,⟨e1,r1⟩,r2,_⟩:=run_append_own (P:=Tryz.prog) w w.heap.size 208 ty 315 i0 (.int .u32 0) 1 4 Tryz.underlying208 hi hz0 hz1 hz2 rfl (by decide) (.slice none 0 0) 0 [] (World.ownsRow_nil w _ _ _)
   ⟨b,off,none⟩ l.length cap (l.map fun (x:Nat)=>Value.int .u32 (x:Int)) (by simp) hnews (by intro u hu;simp only [List.mem_map] at hu;obtain⟨x,_,rfl⟩:=hu;rfl) (by simp only [maxLen];omega) (by omega) (Nat.le_refl _)
  refine⟨v', w', hrun,?_,⟨r2.os,r2.tape,r2.output,r2.size,fun k hk=>r2.block k hk (by simp [Value.ownBlock])⟩⟩
  rcases r1 with⟨rfl,hn⟩|⟨g,cap', cur', rfl,hg,hh,hn,hc,hs,ht⟩
  ·have:l=[]:=List.length_eq_zero_iff.1 (by omega)
   subst this
   exact .inl ⟨rfl,rfl⟩
  ·refine .inr ⟨g,0,cap', cur', (0,0),by simp,hh,by omega,by simp only [maxLen] at hc;omega,fun i x hx=>⟨?_,(h5 i x hx).2⟩⟩
   have hlt:i<l.length:=(List.getElem?_eq_some_iff.1 hx).1
   have e2:(cur'.toList.take ((0+l.length)*1))[i]? = some (.int .u32 (x:Int)):=by
    rw [ht];simp [hx]
   rw [List.getElem?_take,if_pos (by omega)] at e2
   simpa using e2
theorem append_mag(ty:TypeId){w:World}{v:Value}{n:Nat}(h:Mag w v n)(hn:bl n≤1099511627776):∃ v' w', (Builtin.append_ #[208,208] ty #[.slice none 0 0,v]).run Tryz.prog w=.ok v' w'∧Mag w' v' n∧Below w.heap.size w w' := by
 obtain⟨l,h1,h2,h3,h4⟩:=h.words hn
 obtain⟨v', w', g1,g2,g3⟩:=append_words ty h1 h4
 exact⟨v', w', g1,⟨l,g2,h2,h3⟩,g3⟩
theorem MagP.raw{n:Nat}{S:Nat→Prop}{v:Value}{w:World}(h:(MagP n).p S v w):(RawP n).p S v w:=by
 obtain⟨l,h1,h2,h3⟩:=h;exact⟨l,h1,h3⟩
end Go.Proofs.YtcdbmjnipaochaaGreat
namespace Go.Proofs.YtcdbmjnipaochaaGreat.Rgn
open Go.RowKit
variable {P:Program} {ops:Array Oper} {a0:Act} {w0:World} {B0:Nat} {R0:Nat→Prop} {olds:List (Nat×Nat)} {F:List (Pl B0 R0 olds)→Prop}
theorem ex_append{ρ:Operand→Value}{o:Oper}{w w': World}{s x:Operand}{t:TypeId}(ho:o.op=Op.call { callee:=Callee.builtin Builtin.append,args:=#[s,x],argTypes:=#[t,t] }){vs vx v': Value}(hs:ρ s=vs)(hx:ρ x=vx)(hr:(Builtin.append_ #[t,t] o.type #[vs,vx]).run P w=.ok v' w'):(execOp ρ o).run P w=.ok (.value v') w' := by
 subst hs;subst hx
 simp [execOp,ho,resolve,invoke,builtin,hr,Result.andThen]
theorem TodoG.grow{k:Nat}{plan:List (Pl B0 R0 olds)}(i:Nat)(hi:plan.length=i)(o:Oper)(ho:ops[i]? = some o)(hg:Gd ops a0 w0 plan i o)(s:SP B0 R0 olds)(h:∀ u w ρ,Here ops a0 olds w0 plan i u w ρ→∃ v w', (execOp ρ o).run P w=.ok (.value v) w'∧s.p (upd u i ⟨v,w.heap.size,w'.heap.size⟩) w'∧Below w.heap.size w w')(rest:TodoG P ops a0 w0 F k (plan++[.op none s])):TodoG P ops a0 w0 F (k+1) plan:=by
 subst hi
 refine⟨.op none s,fun o' ho' u w ρ hE hB hO hf _=>?_,rest⟩
 rw [ho] at ho';cases ho'
 obtain⟨v,w', h1,h2,h3⟩:=h u w ρ ⟨hE,hB,hO,hf⟩
 exact .inr ⟨hg u w ρ ⟨hE,hB,hO,hf⟩,.inl ⟨v,w', h1,h2,Does.below h3⟩⟩
theorem Go2.grow{k i:Nat}{rp:List (Nat×Pl B0 R0 olds)}{o:Oper}(ho:ops[i]? = some o)(hg:Gd2 ops a0 w0 rp i o)(s:SP B0 R0 olds)(h:∀ u w ρ,Here2 ops a0 olds w0 rp i u w ρ→∃ v w', (execOp ρ o).run P w=.ok (.value v) w'∧s.p (upd u i ⟨v,w.heap.size,w'.heap.size⟩) w'∧Below w.heap.size w w')(rest:Go2 P ops a0 w0 F k (i+1) ((i,.op none s)::rp)):Go2 P ops a0 w0 F (k+1) i rp:=fun hwf =>
 TodoG.grow i hwf.len o ho (fun u w ρ H=>hg u w ρ ⟨H,hwf⟩) s (fun u w ρ H=>h u w ρ ⟨H,hwf⟩) (Go2.next hwf rest)
end Go.Proofs.YtcdbmjnipaochaaGreat.Rgn
namespace Go.Proofs.YtcdbmjnipaochaaGreat
open Go.RowKit Rgn
variable {S:Nat→Prop} {W:World}
theorem bSet{z:Nat}{v1:Value}(x:Int)(hz:IntBlk W z)(t1:(IntP x).p S v1 W)(p0:hi x≤1099511627776):Calls Tryz.prog 252 #[.pointer (some ⟨z,0,none⟩),v1] W (RetOwn z (IntO x) W):=by
 have hS_:∃ S' : Nat→Prop,S' z∧(IntP x).p S' v1 W:=⟨fun k=>S k∨k=z,.inr rfl,(IntP x).mono (fun _ _ h=>.inl h) t1⟩
 clear t1
 obtain⟨S,L_z,t1⟩:=hS_
 replace L_z:Amb S W z:=.inl L_z
 obtain⟨z_0,z_1,B_z⟩:=hz
 obtain⟨b1,ob1,rfl,L1,F1⟩:=IntP.elim t1
 replace L1:Amb S W b1:=.inl L1
 have q0:=hi_bl x
 have bel:Only z W W:=Only.refl _ _
 go_enter Tryz.func252,Tryz.ntmps252
 refine gs 1 (Amb S W) fun _ K2=>?_
 refine .mc rfl ?_
 refine .dg (fun u=>pt z::.pointer (some ⟨b1,ob1,none⟩)::U::U::u 0::us 11) K2 bel.size fun u1 w1 D=>?_
 have E1_0:=D.q 0
 replace B_z:=D.k B_z
 replace F1:=D.o L1 F1
 replace bel:=D.d.base.only0 bel
 clear D
 refine wp_seq_k fun _ K3=>?_
 refine go2_drawnT (by kernel_rfl) 10 2 rfl (by decide) (by kernel_rfl) (Amb S W) [] [] (Olds.nil _) (by kernel_rfl) ?_
 refine .mz rfl 0 (V:=pt z) rfl ?_
 refine .mz rfl 1 (V:=.pointer (some ⟨b1,ob1,none⟩)) rfl ?_
 refine .nc rfl 1 ?_
 refine .fj rfl 2 ob1 ?_
 refine .e rfl (V:=.bool (decide (x<0))) (fun H=>by have e8:=H.g 8 3;have c1:=IntP.c0 (k:=ob1) (VP.any _ (H.was _ [] (VP.at F1 L1))) rfl;clear H;go_simp) ?_
 refine .mz rfl 1 (V:=.pointer (some ⟨b1,ob1,none⟩)) rfl ?_
 refine .nc rfl 5 ?_
 refine .fj rfl 6 (ob1+1) ?_
 refine Go2.fn (i:=8) rfl (G0 rfl) (.val 8 [] (MagP x.natAbs)) (fun u μ ρ H=>by have e12:=H.g 12 7;obtain⟨v_,c1,hm_⟩:=IntP.c1 (k:=ob1+1) (VP.any _ (H.was _ [] (VP.at F1 L1))) rfl;exact⟨v_,by clear H hm_;go_simp,SP.magVal hm_⟩) ?_
 refine Go2.grow (i:=9) rfl (G0 rfl) (.val 9 [] (MagP x.natAbs)) (fun u μ ρ H=>by have k0:=H.c (.slice none 0 0);have e13:=H.r 13 8;obtain⟨v_,w_,hr_,hm_,hb_⟩:=append_mag 208 (n:=x.natAbs) (show Mag _ (u 8).v _ from (SV.any (H.a 8 rfl))) (by omega);exact⟨v_,w_,ex_append rfl (H.const _) e13 hr_,SP.magVal hm_,hb_⟩) ?_
 refine .dT (fun u=>pt z::.pointer (some ⟨b1,ob1,none⟩)::U::U::u 11::sq u 0 11 []) bel.size _ rfl fun u2 w2 D=>?_
 obtain⟨x4,E2_9,F_x4⟩:∃ x_,(u2 9).v=x_∧(MagP x.natAbs).p (Amb S W) x_ w2:=⟨_,rfl,D.rr 9⟩
 have E2_0:=D.q 0
 have E2_4:=D.q 4
 replace B_z:=D.k B_z
 replace bel:=D.d.base.only0 bel
 clear D
 refine wpT_callO (args:=#[pt z,.bool (decide (x<0)),x4]) rfl (ex_call rfl rfl Tryz.func279 (by kernel_rfl) (by kernel_rfl) (by simp only [List.map_toArray,List.map_cons,List.map_nil];show #[(u2 0).v,(u2 4).v,(u2 9).v]=#[pt z,.bool (decide (x<0)),x4];rw [E2_0,E2_4,E2_9])) (bIs (z:=z) (neg:=(decide (x<0))) (n:=x.natAbs) (IntBlk.of B_z) (MagP.raw (VP.any _ F_x4)) ) fun w5 fw5 ow5=>?_
 have sw5:Soft w2 z∨Local w2 z:=.inl ⟨_,_,B_z,rfl⟩
 replace F_x4:(MagP x.natAbs).p (Amb S W) x4 w5:=(MagP x.natAbs).grow (S:=fun _=>False) (Rgn.Only.growF ow5 sw5) F_x4
 have F_z:=fw5
 replace bel:=bel.trans ow5
 refine wpT_val rfl (ex_assign rfl) ?_
 refine wpList_nil ?_
 show _
 refine K3 _ _ ?_
 refine wp_ret ?_
 refine ret_ok rfl (by exact results_tmp' rfl rfl) ⟨rfl,?_,bel⟩
 exact into_eq (sgn_self x) F_z
theorem bGCD{z:Nat}{v3 v4:Value}(x y:Int)(hz:IntBlk W z)(t3:(IntP x).p S v3 W)(t4:(IntP y).p S v4 W)(p0:hi x+hi y≤1099511627776):Calls Tryz.prog 258 #[.pointer (some ⟨z,0,none⟩),.pointer none,.pointer none,v3,v4] W (RetOwn z (IntO (Int.gcd x y:Int)) W):=by
 have hS_:∃ S' : Nat→Prop,S' z∧(IntP x).p S' v3 W∧(IntP y).p S' v4 W:=⟨fun k=>S k∨k=z,.inr rfl,(IntP x).mono (fun _ _ h=>.inl h) t3,(IntP y).mono (fun _ _ h=>.inl h) t4⟩
 clear t3 t4
 obtain⟨S,L_z,t3,t4⟩:=hS_
 replace L_z:Amb S W z:=.inl L_z
 obtain⟨z_0,z_1,B_z⟩:=hz
 obtain⟨b1,ob1,rfl,L1,F1⟩:=IntP.elim t3
 replace L1:Amb S W b1:=.inl L1
 obtain⟨b2,ob2,rfl,L2,F2⟩:=IntP.elim t4
 replace L2:Amb S W b2:=.inl L2
 have q0:=hi_bl x
 have q1:=hi_bl y
 have bel:Only z W W:=Only.refl _ _
 go_enter Tryz.func258,Tryz.ntmps258
 refine gs 1 (Amb S W) fun _ K3=>?_
 refine .mc rfl ?_
 refine .dg (fun u=>pt z::.pointer none::.pointer none::.pointer (some ⟨b1,ob1,none⟩)::.pointer (some ⟨b2,ob2,none⟩)::U::U::U::U::U::u 0::us 27) K3 bel.size fun u1 w1 D=>?_
 have E1_0:=D.q 0
 replace B_z:=D.k B_z
 replace F1:=D.o L1 F1
 replace F2:=D.o L2 F2
 replace bel:=D.d.base.only0 bel
 clear D
 refine gd 10 (Amb S W) fun _ K4=>?_
 refine .mz rfl 3 (V:=.pointer (some ⟨b1,ob1,none⟩)) rfl ?_
 refine .nc rfl 0 ?_
 refine .fj rfl 1 (ob1+1) ?_
 refine Go2.fn (i:=3) rfl (G0 rfl) (.val 3 [] (MagP x.natAbs)) (fun u μ ρ H=>by have e17:=H.g 17 2;obtain⟨v_,c1,hm_⟩:=IntP.c1 (k:=ob1+1) (VP.any _ (H.was _ [] (VP.at F1 L1))) rfl;exact⟨v_,by clear H hm_;go_simp,SP.magVal hm_⟩) ?_
 refine .mz rfl 4 (V:=.pointer (some ⟨b2,ob2,none⟩)) rfl ?_
 refine .nc rfl 4 ?_
 refine .fj rfl 5 (ob2+1) ?_
 refine Go2.fn (i:=7) rfl (G0 rfl) (.val 7 [] (MagP y.natAbs)) (fun u μ ρ H=>by have e21:=H.g 21 6;obtain⟨v_,c1,hm_⟩:=IntP.c1 (k:=ob2+1) (VP.any _ (H.was _ [] (VP.at F2 L2))) rfl;exact⟨v_,by clear H hm_;go_simp,SP.magVal hm_⟩) ?_
 refine .mn rfl 3 [3] ?_
 refine .mn rfl 7 [7] ?_
 refine .dg (fun u=>pt z::.pointer none::.pointer none::.pointer (some ⟨b1,ob1,none⟩)::.pointer (some ⟨b2,ob2,none⟩)::U::U::U::U::U::u1 0::u 8::u 9::U::U::sq u 0 8 (us 15)) K4 bel.size fun u2 w2 D=>?_
 obtain⟨x5,E2_8,F_x5⟩:∃ x_,(u2 8).v=x_∧(MagP x.natAbs).p (Amb S W) x_ w2:=⟨_,rfl,D.rr 8⟩
 obtain⟨p_x5,m_x5,c_x5,rfl,z_x5,y_x5⟩:=Mag.open F_x5
 obtain⟨x6,E2_9,F_x6⟩:∃ x_,(u2 9).v=x_∧(MagP y.natAbs).p (Amb S W) x_ w2:=⟨_,rfl,D.rr 9⟩
 obtain⟨p_x6,m_x6,c_x6,rfl,z_x6,y_x6⟩:=Mag.open F_x6
 replace B_z:=D.k B_z
 replace bel:=D.d.base.only0 bel
 clear D
 refine wp_seq_k fun _ K7=>?_
 refine wp_block ?_
 refine wp_loop_ghost_k (fun n_ a_ w_=>∃ s11:Value,∃ s12:Value,∃ d13:Value,∃ d14:Value,∃ d23:Value,∃ d24:Value,∃ d25:Value,∃ d26:Value,∃ d27:Value,∃ d28:Value,∃ d29:Value,∃ d30:Value,∃ d31:Value,∃ d32:Value,∃ d33:Value,∃ a:Nat,∃ b:Nat,a_=fr (pt z::.pointer none::.pointer none::.pointer (some ⟨b1,ob1,none⟩)::.pointer (some ⟨b2,ob2,none⟩)::U::U::U::U::U::u1 0::s11::s12::d13::d14::sq u2 0 8 (d23::d24::d25::d26::d27::d28::d29::d30::d31::d32::d33::us 4))∧n_=b∧Nat.gcd a b=Int.gcd x y∧bl a≤1099511627776∧bl b≤1099511627776∧(MagP a).p (Amb S W) s11 w_∧(MagP b).p (Amb S W) s12 w_∧w_.heap[z]? = some (.cells #[z_0,z_1] 210 (0,0))∧Only z W w_) y.natAbs ⟨_,_,_,_,_,_,_,_,_,_,_,_,_,_,_,x.natAbs,y.natAbs,rfl,rfl,by first|rfl|omega,by first|rfl|omega,by first|rfl|omega,(by rw [E2_8];exact F_x5),(by rw [E2_9];exact F_x6),B_z,bel⟩ ?_
 clear B_z F_x5 F_x6 bel
 rintro n_ _ w8 ⟨s11,s12,d13,d14,d23,d24,d25,d26,d27,d28,d29,d30,d31,d32,d33,a,b,rfl,hn11,i0,i1,i2,f11,f12,B_z,bel⟩ J9 K10 hJ9 hK10
 have F_s11:=f11
 clear f11
 obtain⟨p_s11,m_s11,c_s11,rfl,z_s11,y_s11⟩:=Mag.open F_s11
 have F_s12:=f12
 clear f12
 obtain⟨p_s12,m_s12,c_s12,rfl,z_s12,y_s12⟩:=Mag.open F_s12
 refine wp_seq_k fun _ K12=>?_
 refine gs 3 (Amb S W) fun _ K13=>?_
 refine .mz rfl 12 (V:=.slice p_s12 m_s12 c_s12) rfl ?_
 refine .e rfl (V:=.int .i64 (m_s12:Nat)) (fun H=>by have e23:=H.g 23 0;have y_:=y_s12;clear H;go_simp<;>first|(simp_all;done)|omega|exact len_gt z0_) ?_
 refine .e rfl (V:=.bool (!decide (b=0))) (fun H=>by have e24:=H.g 24 1;have k1:=H.c (.int .i64 0);have z0_:=z_s12;clear H;go_simp<;>first|(simp_all;done)|omega|exact len_gt z0_) ?_
 refine .dg (fun u=>pt z::.pointer none::.pointer none::.pointer (some ⟨b1,ob1,none⟩)::.pointer (some ⟨b2,ob2,none⟩)::U::U::U::U::U::u1 0::.slice p_s11 m_s11 c_s11::.slice p_s12 m_s12 c_s12::d13::d14::sq u2 0 8 (sq u 0 3 (d26::d27::d28::d29::d30::d31::d32::d33::us 4))) K13 bel.size fun u3 w3 D=>?_
 have E3_0:=D.q 0
 have E3_1:=D.q 1
 have E3_2:=D.q 2
 replace B_z:=D.k B_z
 replace F_s11:=D.gr (MagP a) F_s11
 replace F_s12:=D.gr (MagP b) F_s12
 replace bel:=D.d.base.only0 bel
 clear D
 rcases Bool.eq_false_or_eq_true (!decide (b=0)) with c14|c14
 ·
  refine wp_cond_true ((E3_2).trans (congrArg Value.bool c14)) ?_
  have dc14:=of_decide_eq_false (by simpa using c14:(decide (b=0))=false)
  refine wp_skip ?_
  refine K12 _ _ ?_
  refine wp_block ?_
  refine gs 8 (Amb S W) fun _ K15=>?_
  refine .mz rfl 11 (V:=.slice p_s11 m_s11 c_s11) rfl ?_
  refine .mz rfl 12 (V:=.slice p_s12 m_s12 c_s12) rfl ?_
  refine .cR rfl [] Tryz.func300 (fun H=>⟨_,ar2 (H.g 27 0) (H.g 28 1),bDivide _ _ (H.was _ [] F_s11) (H.was _ [] F_s12) (by omega) (by omega)⟩) ?_
  refine .mn rfl 2 [2] ?_
  refine Go2.fn (i:=4) rfl (G0 rfl) (.val 4 [2,3] (MagP (a/b))) (fun u μ ρ H=>by have e26:=H.r 26 3;have h0:=(H.a 3 rfl);obtain⟨x0,x1,h1,h2⟩:=h0;rw [h1] at e26;exact⟨x0,by clear H;go_simp,SP.tupKeep (by decide) (by decide) h2.1⟩) ?_
  refine Go2.fn (i:=5) rfl (G0 rfl) (.val 5 [2,3] (MagP (a%b))) (fun u μ ρ H=>by have e26:=H.r 26 3;have h0:=(H.a 3 rfl);obtain⟨x0,x1,h1,h2⟩:=h0;rw [h1] at e26;exact⟨x1,by clear H;go_simp,SP.tupKeep (by decide) (by decide) h2.2⟩) ?_
  refine .mn rfl 4 [2,3,4] ?_
  refine .mn rfl 5 [2,3,5] ?_
  refine .dg (fun u=>pt z::.pointer none::.pointer none::.pointer (some ⟨b1,ob1,none⟩)::.pointer (some ⟨b2,ob2,none⟩)::U::U::U::U::U::u1 0::.slice p_s11 m_s11 c_s11::.slice p_s12 m_s12 c_s12::u 6::u 7::sq u2 0 8 (sq u3 0 3 (u 3::sq u 0 3 (u 4::u 5::d32::d33::us 4)))) K15 bel.size fun u4 w4 D=>?_
  obtain⟨x16,x17,E4_2,F_x16,F_x17⟩:=(D.rr 2)
  obtain⟨p_x16,m_x16,c_x16,rfl,z_x16,y_x16⟩:=Mag.open F_x16
  obtain⟨p_x17,m_x17,c_x17,rfl,z_x17,y_x17⟩:=Mag.open F_x17
  obtain⟨x18,x19,E4_3,F_x18,F_x19⟩:=(D.rr 3)
  obtain⟨p_x18,m_x18,c_x18,rfl,z_x18,y_x18⟩:=Mag.open F_x18
  obtain⟨p_x19,m_x19,c_x19,rfl,z_x19,y_x19⟩:=Mag.open F_x19
  obtain⟨x20,E4_4,F_x20⟩:∃ x_,(u4 4).v=x_∧(MagP (a/b)).p (Amb S W) x_ w4:=⟨_,rfl,D.rr 4⟩
  obtain⟨p_x20,m_x20,c_x20,rfl,z_x20,y_x20⟩:=Mag.open F_x20
  obtain⟨x21,E4_5,F_x21⟩:∃ x_,(u4 5).v=x_∧(MagP (a%b)).p (Amb S W) x_ w4:=⟨_,rfl,D.rr 5⟩
  obtain⟨p_x21,m_x21,c_x21,rfl,z_x21,y_x21⟩:=Mag.open F_x21
  obtain⟨x22,E4_7,F_x22⟩:∃ x_,(u4 7).v=x_∧(MagP (a%b)).p (Amb S W) x_ w4:=⟨_,rfl,D.rr 7⟩
  obtain⟨p_x22,m_x22,c_x22,rfl,z_x22,y_x22⟩:=Mag.open F_x22
  have E4_0:=D.q 0
  have E4_1:=D.q 1
  replace B_z:=D.k B_z
  replace F_s11:=D.gr (MagP a) F_s11
  replace F_s12:=D.gr (MagP b) F_s12
  replace bel:=D.d.base.only0 bel
  clear D
  refine wp_region_list ?_
  refine wpT_val rfl (ex_move rfl) ?_
  refine wpT_val rfl (ex_move rfl) ?_
  refine wpT_val rfl (ex_assign rfl) ?_
  refine wpT_val rfl (ex_assign rfl) ?_
  refine wpList_nil ?_
  show _
  refine inBlock_normal ?_
  refine hK10 _ _ (Handed.intro (a%b) (by rw [hn11];exact Nat.mod_lt _ (by omega)) (hJ9 _ _ _ ⟨_,_,_,_,_,_,_,_,_,_,_,_,_,_,_,b,a%b,rfl,rfl,by first|exact gcd_step i0 dc14|omega|exact Nat.le_trans (bl_mono (Nat.mod_le a b)) i1,by first|exact gcd_step i0 dc14|omega|exact Nat.le_trans (bl_mono (Nat.mod_le a b)) i1,by first|exact gcd_step i0 dc14|omega|exact Nat.le_trans (bl_mono (Nat.mod_le a b)) i1,F_s12,(by rw [E4_7];exact F_x22),B_z,bel⟩))
 ·
  refine wp_cond_false ((E3_2).trans (congrArg Value.bool c14)) ?_
  have dc14:=of_decide_eq_true (by simpa using c14:(decide (b=0))=true)
  refine wp_exit ?_
  refine then_exit ?_
  refine then_exit ?_
  refine inBlock_here ?_
  refine K7 _ _ ?_
  refine wp_seq_k fun _ K23=>?_
  refine go2_seqT 3 2 rfl (Amb S W) [] [] (Olds.nil _) (by kernel_rfl) ?_
  refine .mz rfl 0 (V:=pt z) rfl ?_
  refine .mz rfl 11 (V:=.slice p_s11 m_s11 c_s11) rfl ?_
  refine Go2.grow (i:=2) rfl (G0 rfl) (.val 2 [] (MagP a)) (fun u μ ρ H=>by have k0:=H.c (.slice none 0 0);have e35:=H.g 35 1;obtain⟨v_,w_,hr_,hm_,hb_⟩:=append_mag 208 (n:=a) (show Mag _ (.slice p_s11 m_s11 c_s11) _ from (VP.any _ (H.was _ [] F_s11))) (by omega);exact⟨v_,w_,ex_append rfl (H.const _) e35 hr_,SP.magVal hm_,hb_⟩) ?_
  refine .dT (fun u=>pt z::.pointer none::.pointer none::.pointer (some ⟨b1,ob1,none⟩)::.pointer (some ⟨b2,ob2,none⟩)::U::U::U::U::U::u 4::.slice p_s11 m_s11 c_s11::.slice p_s12 m_s12 c_s12::d13::d14::sq u2 0 8 (sq u3 0 3 (d26::d27::d28::d29::d30::d31::d32::d33::sq u 0 4 []))) bel.size _ rfl fun u6 w6 D=>?_
  obtain⟨x24,E6_2,F_x24⟩:∃ x_,(u6 2).v=x_∧(MagP a).p (Amb S W) x_ w6:=⟨_,rfl,D.rr 2⟩
  obtain⟨p_x24,m_x24,c_x24,rfl,z_x24,y_x24⟩:=Mag.open F_x24
  have E6_0:=D.q 0
  replace B_z:=D.k B_z
  replace bel:=D.d.base.only0 bel
  clear D
  refine wpT_callO (args:=#[pt z,.bool false,.slice p_x24 m_x24 c_x24]) rfl (ex_call rfl rfl Tryz.func279 (by kernel_rfl) (by kernel_rfl) (by simp only [List.map_toArray,List.map_cons,List.map_nil];show #[(u6 0).v,.bool false,(u6 2).v]=#[pt z,.bool false,.slice p_x24 m_x24 c_x24];rw [E6_0,E6_2])) (bIs (z:=z) (neg:=false) (n:=a) (IntBlk.of B_z) (MagP.raw (VP.any _ F_x24)) ) fun w25 fw25 ow25=>?_
  have sw25:Soft w6 z∨Local w6 z:=.inl ⟨_,_,B_z,rfl⟩
  replace F_x24:(MagP a).p (Amb S W) (.slice p_x24 m_x24 c_x24) w25:=(MagP a).grow (S:=fun _=>False) (Rgn.Only.growF ow25 sw25) F_x24
  have F_z:=fw25
  replace bel:=bel.trans ow25
  refine wpT_val rfl (ex_assign rfl) ?_
  refine wpList_nil ?_
  show _
  refine K23 _ _ ?_
  refine wp_ret ?_
  refine ret_ok rfl (by exact results_tmp' rfl rfl) ⟨rfl,?_,bel⟩
  exact into_eq (gcd_end i0 dc14) F_z
end Go.Proofs.YtcdbmjnipaochaaGreat
namespace Go.Proofs.YtcdbmjnipaochaaGreat
open Go.RowKit Rgn
theorem bOf{S:Nat→Prop}{W:World}(N:Nat)(hN:N<18446744073709551616):Calls Tryz.prog 297 #[.int .u64 (N:Int)] W (Ret (MagP N) S W):=by
 obtain⟨hb2,hv2⟩:=two_words N hN
 have hlo:(N:Int)%4294967296=((N%4294967296:Nat):Int):=by omega
 have hhi:(N:Int)/4294967296=((N/4294967296:Nat):Int):=by omega
 have hlo4:N%4294967296<4294967296:=by omega
 have hhi4:N/4294967296<4294967296:=by omega
 have hw0:IntKind.wrap .u32 (N:Int)=((N%4294967296:Nat):Int):=by rw [IntKind.wrap_u32];omega
 have hw2:IntKind.wrap .u32 ((N/4294967296:Nat):Int)=((N/4294967296:Nat):Int):=IntWalk.u32_in _ (by omega)
 generalize N%4294967296=lo at *
 generalize N/4294967296=hi at *
 have hW:=Words.two (w:=W) hlo4 hhi4
 have HC:=bigcut_any _ _ _ hW
 have HM:=cut_mag hW
 rw [hv2] at HM
 have HM:=Lib.hid HM
 have hbel:Hid (Below W.heap.size W (W.alloc (.cells #[.int .u32 lo,.int .u32 hi] 315))):=Lib.hid ((Below.refl _ _).alloc (Nat.le_refl _) _)
 generalize hcv:cutV [lo,hi] (.slice (some ⟨W.heap.size,0,none⟩) 2 2)=cv at *
 clear hcv hW hb2 hv2 hlo
 go_enter Tryz.func297,Tryz.ntmps297
 go_wp2_with fail
 go_call HC as _ _ ⟨rfl,rfl⟩
 go_wp2_with fail
 exact ret_ok rfl (by exact results_tmp' rfl rfl) ⟨_,rfl,HM.out,hbel.out⟩
theorem bSetInt64{W:World}{z:Nat}(hz:IntBlk W z)(n:Int)(h1:-9223372036854775808≤n)(h2:n≤9223372036854775807):Calls Tryz.prog 256 #[.pointer (some ⟨z,0,none⟩),.int .i64 n] W (RetOwn z (IntO n) W):=by
 have hO:=bOf (S:=fun _=>False) (W:=W) n.natAbs (by omega)
 have hI:=fun (w' : World) (v:Value) (hb:Below W.heap.size W w') (hv:Mag w' v n.natAbs) =>
  bIs (W:=w') (z:=z) (v2:=v) (decide (n<0)) n.natAbs (by obtain⟨x,y,h⟩:=hz;exact⟨x,y,by rw [hb.block z (lt_of h)];exact h⟩) (S:=fun _=>False) (MagP.raw (n:=n.natAbs) hv)
 rw [sgn_self] at hI
 by_cases hn:n<0
 ·have hc1:IntKind.wrap .u64 n=n+18446744073709551616:=by rw [IntKind.wrap_u64];omega
  have hc2:IntKind.wrap .u64 (-(n+18446744073709551616))=(n.natAbs:Int):=by rw [IntKind.wrap_u64];omega
  have hlt:decide (n<0)=true:=decide_eq_true hn
  rw [hlt] at hI
  clear h1 h2
  generalize n.natAbs=N at *
  go_enter Tryz.func256,Tryz.ntmps256
  go_wp2_with fail
  go_call hO as _ w1 ⟨v,rfl,hm,hb⟩
  go_wp2_with fail
  go_call (hI w1 v hb hm) as _ w2 ⟨rfl,hf,ho⟩
  go_wp2_with fail
  exact ret_ok rfl (by exact results_tmp' rfl rfl) ⟨rfl,hf,(Only.below hb).trans ho⟩
 ·have hc1:IntKind.wrap .u64 n=(n.natAbs:Int):=by rw [IntKind.wrap_u64];omega
  have hlt:decide (n<0)=false:=decide_eq_false hn
  rw [hlt] at hI
  clear h1 h2
  generalize n.natAbs=N at *
  go_enter Tryz.func256,Tryz.ntmps256
  go_wp2_with fail
  go_call hO as _ w1 ⟨v,rfl,hm,hb⟩
  go_wp2_with fail
  go_call (hI w1 v hb hm) as _ w2 ⟨rfl,hf,ho⟩
  go_wp2_with fail
  exact ret_ok rfl (by exact results_tmp' rfl rfl) ⟨rfl,hf,(Only.below hb).trans ho⟩
theorem neg_cell(x:Int):((!decide (x<0)) && !decide (x.natAbs=0))=decide (-x<0):=by
 rcases Int.lt_trichotomy x 0 with h|h|h
 ·rw [decide_eq_true h,decide_eq_false (show ¬ -x<0 by omega)];rfl
 ·subst h;rfl
 ·rw [decide_eq_false (show ¬ x<0 by omega),decide_eq_false (show ¬ x.natAbs=0 by omega),decide_eq_true (show -x<0 by omega)];rfl
theorem bNeg{W:World}{z:Nat}{S:Nat→Prop}{v1:Value}(hz:IntBlk W z)(x:Int)(t1:(IntP x).p S v1 W)(p0:hi x≤1099511627776):Calls Tryz.prog 207 #[.pointer (some ⟨z,0,none⟩),v1] W (RetOwn z (IntO (-x)) W):=by
 have hS:=bSet x hz t1 p0
 have hT:=fun (w1:World) (h:(IntO x).p (·=z) (.pointer (some ⟨z,0,none⟩)) w1)=>IntO.at h
 have hN:=neg_cell x
 have hA:=Int.natAbs_neg x
 go_enter Tryz.func207,Tryz.ntmps207
 go_wp2_with fail
 go_call hS as _ w1 ⟨rfl,hf,ho⟩
 obtain⟨v,hB,hM⟩:=hT w1 hf
 obtain⟨p,m,c,rfl,hm0,hm1⟩:=Mag.open hM
 have hm:=len_gt hm0
 have hO:Only z w1 (w1.setCell ⟨z,0,none⟩ (.bool (decide (-x<0)))):=setCell_only _ ⟨z,0,none⟩ _
 have hB2:=setCell_at (o:=0) (v:=.bool (decide (-x<0))) hB
 have hMag:=MagP x.natAbs |>.grow (hO.growF (.inl ⟨_,_,hB,rfl⟩)) (S:=fun _=>False) hM
 have HR:RetOwn z (IntO (-x)) W (.returned (.pointer (some ⟨z,0,none⟩))) (w1.setCell ⟨z,0,none⟩ (.bool (decide (-x<0)))) :=
  ⟨rfl,⟨z,rfl,rfl,.slice p m c,hB2,by rw [Int.natAbs_neg];exact hMag⟩,ho.trans hO⟩
 rw [← hN,← hm] at HR
 have HR:=Lib.hid HR
 have hf1:w1.frozen? ⟨z,0,none⟩=false:=frozen_of hB
 have hcc0:w1.cell? ⟨z,0,none⟩=some (.bool (decide (x<0))):=cell_of (off:=0) hB rfl
 have hcc1:w1.cell? ⟨z,1,none⟩=some (.slice p m c):=cell_of (off:=1) hB rfl
 clear hO hB2 hMag hB hM hT hN hA hm0 hm1 hm hf ho hS p0 t1 hz
 generalize decide (x<0)=q at *
 cases q with
 | true =>
  go_wp2_with fail
  exact ret_ok rfl (by exact results_tmp' rfl rfl) HR.out
 | false =>
  go_wp2_with fail
  exact ret_ok rfl (by exact results_tmp' rfl rfl) HR.out
end Go.Proofs.YtcdbmjnipaochaaGreat
namespace Go.Proofs.YtcdbmjnipaochaaGreat
open Go.RowKit Rgn
variable {S:Nat→Prop} {W:World}
theorem bNewInt(n:Int)(p0:-9223372036854775808≤n)(p1:n≤9223372036854775807):Calls Tryz.prog 148 #[.int .i64 n] W (Ret (IntO n) S W):=by
 have bel:=b0 W
 go_enter Tryz.func148,Tryz.ntmps148
 refine gs 1 (Amb S W) fun _ K1=>?_
 refine .mc rfl ?_
 refine .dk (fun u=>.int .i64 n::U::u 0::us 3) K1 bel fun u1 w1 D bel=>?_
 have E1_0:=D.q 0
 clear D
 refine gs 4 (Amb S W) fun _ K2=>?_
 refine .al rfl zI ?_
 refine .mz rfl 0 (V:=.int .i64 n) rfl ?_
 refine .cO rfl 0 Tryz.func256 (fun H h0 hz=>⟨_,ar2 (H.p 3 0 h0) (H.g 4 1),bSetInt64 (n:=_) (IntBlk.of hz) (by omega) (by omega)⟩) ?_
 refine .mo rfl 2 ?_
 refine .dk (fun u=>.int .i64 n::U::u 3::sq u 0 3 []) K2 bel fun u2 w2 D bel=>?_
 obtain⟨b3,E2_3,A3,F3⟩:=D.ow 3
 have L3:Amb S W b3:=.inr A3
 clear D
 refine wp_ret ?_
 refine ret_ok rfl (by exact results_tmp' rfl (by exact E2_3)) ⟨_,rfl,?_,bel⟩
 exact (VP.at F3 L3)
end Go.Proofs.YtcdbmjnipaochaaGreat
namespace Go.Proofs.YtcdbmjnipaochaaGreat
open Go.RowKit Rgn
theorem bDen{S:Nat→Prop}{W:World}{v0:Value}(q:Rat)(t0:(RatP q).p S v0 W):Calls Tryz.prog 222 #[v0] W (Ret (IntP (q.den:Int)) S W):=by
 obtain⟨b,rfl,hS,F⟩:=RatP.elim t0
 rcases RatP.in F with⟨v1,v2,hB,hM1,hM2⟩|⟨rfl,hZ⟩
 ·obtain⟨p,m,c,rfl,hm0,hm1⟩:=Mag.open hM2
  have hm:((m:Int) == 0)=false:=by
   have:=q.den_pos
   rw [beq_eq_false_iff_ne];omega
  have hc3:W.cell? ⟨b,3,none⟩=some (.slice p m c):=cell_of (off:=3) hB rfl
  have hF:(IntP (q.den:Int)).p (fun k=>S k∨W.heap.size≤k) (.pointer (some ⟨b,2,none⟩)) W :=
   ⟨b,2,rfl,.inl hS,_,_,_,hB,rfl,(by rw [decide_eq_false (show ¬ (q.den:Int)<0 by omega)];rfl),rfl,hM2⟩
  have hF:=Lib.hid hF
  clear hB hM1 hM2 hm0 F t0
  go_enter Tryz.func222,Tryz.ntmps222
  go_wp2_with fail
  exact ret_ok rfl (by exact results_tmp' rfl rfl) ⟨_,rfl,hF.out,Below.refl _ _⟩
 ·have hc3:W.cell? ⟨b,3,none⟩=some (.slice none 0 0):=cell_of (off:=3) hZ rfl
  have hN:=bNewInt (S:=S) (W:=W) 1 (by omega) (by omega)
  clear hZ F t0
  go_enter Tryz.func222,Tryz.ntmps222
  go_wp2_with fail
  go_call hN as _ w1 ⟨v,rfl,hf,hb⟩
  go_wp2_with fail
  exact ret_ok rfl (by exact results_tmp' rfl rfl) ⟨_,rfl,IntO.p hf,hb⟩
structure Only2 (z r:Nat) (w w' : World):Prop where
 os:w'.os=w.os
 tape:w'.tape=w.tape
 output:w'.output=w.output
 size:w.heap.size≤w'.heap.size
 block:∀ k,k<w.heap.size→k≠z→k≠r→w'.heap[k]? = w.heap[k]?
theorem Only2.refl(z r:Nat)(w:World):Only2 z r w w:=⟨rfl,rfl,rfl,Nat.le_refl _,fun _ _ _ _=>rfl⟩
theorem Only2.trans{z r:Nat}{a b c:World}(h:Only2 z r a b)(g:Only2 z r b c):Only2 z r a c :=
 ⟨g.os.trans h.os,g.tape.trans h.tape,g.output.trans h.output,Nat.le_trans h.size g.size,fun k hk h1 h2=>(g.block k (Nat.lt_of_lt_of_le hk h.size) h1 h2).trans (h.block k hk h1 h2)⟩
theorem Only2.base{z r:Nat}{a b c:World}(h:Only2 z r a b)(h1:c.os=b.os)(h2:c.tape=b.tape)(h3:c.output=b.output)(h4:b.heap.size≤c.heap.size)(h5:∀ k,k<b.heap.size→k≠z→k≠r→c.heap[k]? = b.heap[k]?):Only2 z r a c :=
 h.trans ⟨h1,h2,h3,h4,h5⟩
theorem Only2.left{z r:Nat}{a b c:World}(h:Only2 z r a b)(g:Only z b c):Only2 z r a c:=h.trans ⟨g.os,g.tape,g.output,g.size,fun k hk h1 _=>g.block k hk h1⟩
theorem Only2.right{z r:Nat}{a b c:World}(h:Only2 z r a b)(g:Only r b c):Only2 z r a c:=h.trans ⟨g.os,g.tape,g.output,g.size,fun k hk _ h2=>g.block k hk h2⟩
theorem Only2.other{z r n:Nat}{a b c:World}(h:Only2 z r a b)(g:Only n b c)(hn:a.heap.size≤n)(hs:a.heap.size≤b.heap.size):Only2 z r a c :=
 ⟨g.os.trans h.os,g.tape.trans h.tape,g.output.trans h.output,Nat.le_trans h.size g.size,fun k hk h1 h2=>(g.block k (Nat.lt_of_lt_of_le hk h.size) (by omega)).trans (h.block k hk h1 h2)⟩
theorem Only2.drop{z r:Nat}{a b c:World}(g:Only2 z r b c)(h:Only z a b)(hn:a.heap.size≤r):Only z a c :=
 ⟨g.os.trans h.os,g.tape.trans h.tape,g.output.trans h.output,Nat.le_trans h.size g.size,fun k hk h1=>(g.block k (Nat.lt_of_lt_of_le hk h.size) h1 (by omega)).trans (h.block k hk h1)⟩
theorem Only2.keep{z r b:Nat}{w w': World}{o:Obj}(h:Only2 z r w w')(hb:w.heap[b]? = some o)(h1:b≠z)(h2:b≠r):w'.heap[b]? = some o:=by
 rw [h.block b (lt_of hb) h1 h2];exact hb
theorem Only2.one{z r b:Nat}{w w': World}(h:Only2 z r w w')(hz:Soft w z∨Local w z)(hr:Soft w r∨Local w r)(φ:VP){v:Value}(h1:b≠z)(h2:b≠r)(h0:φ.p (·=b) v w):φ.p (·=b) v w' := by
 refine φ.grow ⟨h.os,h.tape,h.output,h.size,fun k hk=>?_⟩ h0
 by_cases e:k=z
 ·subst e
  rcases hz with hz|hz
  ·exact .inr (.inr ⟨hz,fun e=>h1 e.symm⟩)
  ·exact .inr (.inl hz)
 ·by_cases e' : k=r
  ·subst e'
   rcases hr with hz|hz
   ·exact .inr (.inr ⟨hz,fun e=>h2 e.symm⟩)
   ·exact .inr (.inl hz)
  ·exact .inl (h.block k hk e e')
def RetOwn2(z:Nat)(φ:VP)(r:Nat)(ψ:VP)(W:World)(e:Ending)(w': World):Prop :=
 e=.returned (.tuple #[.pointer (some ⟨z,0,none⟩),.pointer (some ⟨r,0,none⟩)])∧φ.p (·=z) (.pointer (some ⟨z,0,none⟩)) w'∧ψ.p (·=r) (.pointer (some ⟨r,0,none⟩)) w'∧Only2 z r W w'
theorem wpT_callO2{P:Program}{ops:Array Oper}{Q:Exit→Act→World→Prop}{o:Oper}{rest:List Oper}{a:Act}{w:World}{f:FuncId}{args:Array Value}{z r:Nat}{φ ψ:VP}(hg:o.guard=none)(hr:(execOp a.eval o).run P w=.ok (.enter f args) w)(hc:Calls P f args w (RetOwn2 z φ r ψ w))(h:∀ w', φ.p (·=z) (.pointer (some ⟨z,0,none⟩)) w'→ψ.p (·=r) (.pointer (some ⟨r,0,none⟩)) w'→Only2 z r w w'→wpList P ops Q rest (a.put o.dst (.tuple #[.pointer (some ⟨z,0,none⟩),.pointer (some ⟨r,0,none⟩)])) w'):wpList P ops Q (o::rest) a w:=by
 refine wpList_plain hg fun K hK=>?_
 simp only [Oper.wp,hr,Oper.upon]
 refine hc.mono fun e w' ⟨he,h1,h2,h3⟩=>?_
 subst he
 exact hK _ _ (h w' h1 h2 h3)
theorem sgn_tdiv{x y:Int}:sgn (decide (x<0) != decide (y<0)) (x.natAbs/y.natAbs)=x.tdiv y:=by
 have h1:=sgn_self x
 have h2:=sgn_self y
 generalize x.natAbs=a at *
 generalize y.natAbs=b at *
 generalize decide (x<0)=c at *
 generalize decide (y<0)=d at *
 subst h1;subst h2
 cases c<;>cases d<;>simp [sgn,Int.neg_tdiv,Int.tdiv_neg]
theorem sgn_tmod{x y:Int}:sgn (decide (x<0)) (x.natAbs%y.natAbs)=x.tmod y:=by
 have h1:=sgn_self x
 have h2:=sgn_self y
 generalize x.natAbs=a at *
 generalize y.natAbs=b at *
 generalize decide (x<0)=c at *
 generalize decide (y<0)=d at *
 subst h1;subst h2
 cases c<;>cases d<;>simp only [sgn,if_true,Bool.false_eq_true,if_false,Int.neg_tmod,Int.tmod_neg,Int.ofNat_tmod]
end Go.Proofs.YtcdbmjnipaochaaGreat
namespace Go.Proofs.YtcdbmjnipaochaaGreat
open Go.RowKit Rgn
variable {S:Nat→Prop} {W:World}
theorem bQuoRem{z:Nat}{v1 v2:Value}{r:Nat}(x y:Int)(hz:IntBlk W z)(t1:(IntP x).p S v1 W)(t2:(IntP y).p S v2 W)(hz_r:IntBlk W r)(N_z_r:z≠r)(p0:hi x+hi y≤1099511627776)(p1:y≠0):Calls Tryz.prog 301 #[.pointer (some ⟨z,0,none⟩),v1,v2,.pointer (some ⟨r,0,none⟩)] W (RetOwn2 z (IntO (x.tdiv y)) r (IntO (x.tmod y)) W):=by
 have hS_:∃ S' : Nat→Prop,S' z∧S' r∧(IntP x).p S' v1 W∧(IntP y).p S' v2 W:=⟨fun k=>S k∨k=z∨k=r,.inr (.inl rfl),.inr (.inr rfl),(IntP x).mono (fun _ _ h=>.inl h) t1,(IntP y).mono (fun _ _ h=>.inl h) t2⟩
 clear t1 t2
 obtain⟨S,L_z,L_r,t1,t2⟩:=hS_
 replace L_z:Amb S W z:=.inl L_z;replace L_r:Amb S W r:=.inl L_r
 obtain⟨z_0,z_1,B_z⟩:=hz
 obtain⟨b1,ob1,rfl,L1,F1⟩:=IntP.elim t1
 replace L1:Amb S W b1:=.inl L1
 obtain⟨b2,ob2,rfl,L2,F2⟩:=IntP.elim t2
 replace L2:Amb S W b2:=.inl L2
 obtain⟨r_0,r_1,B_r⟩:=hz_r
 have q0:=hi_bl x
 have q1:=hi_bl y
 have q2:=bl_mono (Nat.mod_le x.natAbs y.natAbs)
 have bel:Only2 z r W W:=Only2.refl _ _ _
 go_enter Tryz.func301,Tryz.ntmps301
 refine gs 2 (Amb S W) fun _ K3=>?_
 refine .mc rfl ?_
 refine .mc rfl ?_
 refine .dg (fun u=>pt z::.pointer (some ⟨b1,ob1,none⟩)::.pointer (some ⟨b2,ob2,none⟩)::pt r::U::U::U::U::u 0::u 1::us 40) K3 bel.size fun u1 w1 D=>?_
 have E1_0:=D.q 0
 have E1_1:=D.q 1
 replace B_z:=D.k B_z
 replace B_r:=D.k B_r
 replace F1:=D.o L1 F1
 replace F2:=D.o L2 F2
 replace bel:=bel.base D.d.base.grow.os D.d.base.grow.tape D.d.base.grow.output D.d.base.grow.size (fun k hk h1 h2=>D.d.base.block k (by omega) (by simp))
 clear D
 refine gd 14 (Amb S W) fun _ K4=>?_
 refine .mz rfl 1 (V:=.pointer (some ⟨b1,ob1,none⟩)) rfl ?_
 refine .nc rfl 0 ?_
 refine .fj rfl 1 (ob1+1) ?_
 refine Go2.fn (i:=3) rfl (G0 rfl) (.val 3 [] (MagP x.natAbs)) (fun u μ ρ H=>by have e17:=H.g 17 2;obtain⟨v_,c1,hm_⟩:=IntP.c1 (k:=ob1+1) (VP.any _ (H.was _ [] (VP.at F1 L1))) rfl;exact⟨v_,by clear H hm_;go_simp,SP.magVal hm_⟩) ?_
 refine .mz rfl 2 (V:=.pointer (some ⟨b2,ob2,none⟩)) rfl ?_
 refine .nc rfl 4 ?_
 refine .fj rfl 5 (ob2+1) ?_
 refine Go2.fn (i:=7) rfl (G0 rfl) (.val 7 [] (MagP y.natAbs)) (fun u μ ρ H=>by have e21:=H.g 21 6;obtain⟨v_,c1,hm_⟩:=IntP.c1 (k:=ob2+1) (VP.any _ (H.was _ [] (VP.at F2 L2))) rfl;exact⟨v_,by clear H hm_;go_simp,SP.magVal hm_⟩) ?_
 refine .cR rfl [3,7] Tryz.func300 (fun H=>⟨_,ar2 (H.r 18 3) (H.r 22 7),bDivide _ _ (SV.sub [3,7] (H.a 3 rfl) rfl) (SV.sub [3,7] (H.a 7 rfl) rfl) (by omega) (by omega)⟩) ?_
 refine .mn rfl 8 [3,7,8] ?_
 refine Go2.fn (i:=10) rfl (G0 rfl) (.val 10 [3,7,8,9] (MagP (x.natAbs/y.natAbs))) (fun u μ ρ H=>by have e14:=H.r 14 9;have h0:=(H.a 9 rfl);obtain⟨x0,x1,h1,h2⟩:=h0;rw [h1] at e14;exact⟨x0,by clear H;go_simp,SP.tupKeep (by decide) (by decide) h2.1⟩) ?_
 refine Go2.fn (i:=11) rfl (G0 rfl) (.val 11 [3,7,8,9] (MagP (x.natAbs%y.natAbs))) (fun u μ ρ H=>by have e14:=H.r 14 9;have h0:=(H.a 9 rfl);obtain⟨x0,x1,h1,h2⟩:=h0;rw [h1] at e14;exact⟨x1,by clear H;go_simp,SP.tupKeep (by decide) (by decide) h2.2⟩) ?_
 refine .mn rfl 10 [3,7,8,9,10] ?_
 refine .mn rfl 11 [3,7,8,9,11] ?_
 refine .dg (fun u=>pt z::.pointer (some ⟨b1,ob1,none⟩)::.pointer (some ⟨b2,ob2,none⟩)::pt r::U::U::U::U::u1 0::u1 1::u 12::u 13::U::U::u 9::sq u 0 9 (u 10::u 11::us 24)) K4 bel.size fun u2 w2 D=>?_
 obtain⟨x5,E2_12,F_x5⟩:∃ x_,(u2 12).v=x_∧(MagP (x.natAbs/y.natAbs)).p (Amb S W) x_ w2:=⟨_,rfl,D.rr 12⟩
 obtain⟨x6,E2_13,F_x6⟩:∃ x_,(u2 13).v=x_∧(MagP (x.natAbs%y.natAbs)).p (Amb S W) x_ w2:=⟨_,rfl,D.rr 13⟩
 replace B_z:=D.k B_z
 replace B_r:=D.k B_r
 replace F1:=D.o L1 F1
 replace F2:=D.o L2 F2
 replace bel:=bel.base D.d.base.grow.os D.d.base.grow.tape D.d.base.grow.output D.d.base.grow.size (fun k hk h1 h2=>D.d.base.block k (by omega) (by simp))
 clear D
 refine gd 15 (Amb S W) fun _ K7=>?_
 refine .mz rfl 1 (V:=.pointer (some ⟨b1,ob1,none⟩)) rfl ?_
 refine .nc rfl 0 ?_
 refine .fj rfl 1 ob1 ?_
 refine .e rfl (V:=.bool (decide (x<0))) (fun H=>by have e28:=H.g 28 2;have c1:=IntP.c0 (k:=ob1) (VP.any _ (H.was _ [] (VP.at F1 L1))) rfl;clear H;go_simp) ?_
 refine .mz rfl 2 (V:=.pointer (some ⟨b2,ob2,none⟩)) rfl ?_
 refine .nc rfl 4 ?_
 refine .fj rfl 5 ob2 ?_
 refine .e rfl (V:=.bool (decide (y<0))) (fun H=>by have e32:=H.g 32 6;have c1:=IntP.c0 (k:=ob2) (VP.any _ (H.was _ [] (VP.at F2 L2))) rfl;clear H;go_simp) ?_
 refine .e rfl (V:=.bool ((decide (x<0)) != (decide (y<0)))) (fun H=>x_bne (H.g 29 3) (H.g 33 7)) ?_
 refine .mz rfl 1 (V:=.pointer (some ⟨b1,ob1,none⟩)) rfl ?_
 refine .nc rfl 9 ?_
 refine .fj rfl 10 ob1 ?_
 refine .e rfl (V:=.bool (decide (x<0))) (fun H=>by have e37:=H.g 37 11;have c1:=IntP.c0 (k:=ob1) (VP.any _ (H.was _ [] (VP.at F1 L1))) rfl;clear H;go_simp) ?_
 refine .mv rfl 8 ?_
 refine .mv rfl 12 ?_
 refine .dg (fun u=>pt z::.pointer (some ⟨b1,ob1,none⟩)::.pointer (some ⟨b2,ob2,none⟩)::pt r::U::U::U::U::u1 0::u1 1::u2 12::u2 13::u 13::u 14::u2 9::sq u2 0 9 (u2 10::u2 11::sq u 0 13 (us 11))) K7 bel.size fun u3 w3 D=>?_
 have E3_13:=D.q 13
 have E3_14:=D.q 14
 replace B_z:=D.k B_z
 replace B_r:=D.k B_r
 replace F_x5:=D.gr (MagP (x.natAbs/y.natAbs)) F_x5
 replace F_x6:=D.gr (MagP (x.natAbs%y.natAbs)) F_x6
 replace bel:=bel.base D.d.base.grow.os D.d.base.grow.tape D.d.base.grow.output D.d.base.grow.size (fun k hk h1 h2=>D.d.base.block k (by omega) (by simp))
 clear D
 refine wp_seq_k fun _ K8=>?_
 refine go2_seqT 4 1 rfl (Amb S W) [] [] (Olds.nil _) (by kernel_rfl) ?_
 refine .mz rfl 3 (V:=pt r) rfl ?_
 refine .mz rfl 13 E3_14 ?_
 refine .mz rfl 11 E2_13 ?_
 refine Go2.grow (i:=3) rfl (G0 rfl) (.val 3 [] (MagP (x.natAbs%y.natAbs))) (fun u μ ρ H=>by have k0:=H.c (.slice none 0 0);have e41:=H.g 41 2;obtain⟨v_,w_,hr_,hm_,hb_⟩:=append_mag 208 (n:=x.natAbs%y.natAbs) (show Mag _ x6 _ from (VP.any _ (H.was _ [] F_x6))) (by omega);exact⟨v_,w_,ex_append rfl (H.const _) e41 hr_,SP.magVal hm_,hb_⟩) ?_
 refine .dT (fun u=>pt z::.pointer (some ⟨b1,ob1,none⟩)::.pointer (some ⟨b2,ob2,none⟩)::pt r::U::U::U::U::u1 0::u1 1::u2 12::u2 13::u3 13::u3 14::u2 9::sq u2 0 9 (u2 10::u2 11::sq u3 0 13 (sq u 0 5 (us 6)))) bel.size _ rfl fun u4 w4 D=>?_
 obtain⟨x9,E4_3,F_x9⟩:∃ x_,(u4 3).v=x_∧(MagP (x.natAbs%y.natAbs)).p (Amb S W) x_ w4:=⟨_,rfl,D.rr 3⟩
 have E4_0:=D.q 0
 have E4_1:=D.q 1
 replace B_z:=D.k B_z
 replace B_r:=D.k B_r
 replace F_x5:=D.gr (MagP (x.natAbs/y.natAbs)) F_x5
 replace bel:=bel.base D.d.base.grow.os D.d.base.grow.tape D.d.base.grow.output D.d.base.grow.size (fun k hk h1 h2=>D.d.base.block k (by omega) (by simp))
 clear D
 refine wpT_callO (args:=#[pt r,.bool (decide (x<0)),x9]) rfl (ex_call rfl rfl Tryz.func279 (by kernel_rfl) (by kernel_rfl) (by simp only [List.map_toArray,List.map_cons,List.map_nil];show #[(u4 0).v,(u4 1).v,(u4 3).v]=#[pt r,.bool (decide (x<0)),x9];rw [E4_0,E4_1,E4_3])) (bIs (z:=r) (neg:=(decide (x<0))) (n:=x.natAbs%y.natAbs) (IntBlk.of B_r) (MagP.raw (VP.any _ F_x9)) ) fun w10 fw10 ow10=>?_
 have sw10:Soft w4 r∨Local w4 r:=.inl ⟨_,_,B_r,rfl⟩
 replace B_z:=ow10.keep B_z N_z_r
 replace F_x5:(MagP (x.natAbs/y.natAbs)).p (Amb S W) x5 w10:=(MagP (x.natAbs/y.natAbs)).grow (S:=fun _=>False) (Rgn.Only.growF ow10 sw10) F_x5
 replace F_x9:(MagP (x.natAbs%y.natAbs)).p (Amb S W) x9 w10:=(MagP (x.natAbs%y.natAbs)).grow (S:=fun _=>False) (Rgn.Only.growF ow10 sw10) F_x9
 have F_r:=fw10
 replace bel:=bel.right ow10
 refine wpList_nil ?_
 show _
 refine K8 _ _ ?_
 refine wp_seq_k fun _ K11=>?_
 refine go2_seqT 3 1 rfl (Amb S W) [] [] (Olds.nil _) (by kernel_rfl) ?_
 refine .mz rfl 0 (V:=pt z) rfl ?_
 refine .mz rfl 12 E3_13 ?_
 refine .mz rfl 10 E2_12 ?_
 refine .dT (fun u=>pt z::.pointer (some ⟨b1,ob1,none⟩)::.pointer (some ⟨b2,ob2,none⟩)::pt r::U::U::U::U::u1 0::u1 1::u2 12::u2 13::u3 13::u3 14::u2 9::sq u2 0 9 (u2 10::u2 11::sq u3 0 13 (sq u4 0 4 (.pointer (some ⟨r,0,none⟩)::sq u 0 4 (U::U::[]))))) bel.size _ rfl fun u5 w5 D=>?_
 have E5_0:=D.q 0
 have E5_1:=D.q 1
 have E5_2:=D.q 2
 replace B_z:=D.k B_z
 replace F_r:=D.o L_r F_r
 replace F_x5:=D.gr (MagP (x.natAbs/y.natAbs)) F_x5
 replace bel:=bel.base D.d.base.grow.os D.d.base.grow.tape D.d.base.grow.output D.d.base.grow.size (fun k hk h1 h2=>D.d.base.block k (by omega) (by simp))
 clear D
 refine wpT_callO (args:=#[pt z,.bool ((decide (x<0)) != (decide (y<0))),x5]) rfl (ex_call rfl rfl Tryz.func279 (by kernel_rfl) (by kernel_rfl) (by simp only [List.map_toArray,List.map_cons,List.map_nil];show #[(u5 0).v,(u5 1).v,(u5 2).v]=#[pt z,.bool ((decide (x<0)) != (decide (y<0))),x5];rw [E5_0,E5_1,E5_2])) (bIs (z:=z) (neg:=((decide (x<0)) != (decide (y<0)))) (n:=x.natAbs/y.natAbs) (IntBlk.of B_z) (MagP.raw (VP.any _ F_x5)) ) fun w12 fw12 ow12=>?_
 have sw12:Soft w5 z∨Local w5 z:=.inl ⟨_,_,B_z,rfl⟩
 replace F_r:=ow12.one sw12 _ (Ne.symm N_z_r) F_r
 replace F_x5:(MagP (x.natAbs/y.natAbs)).p (Amb S W) x5 w12:=(MagP (x.natAbs/y.natAbs)).grow (S:=fun _=>False) (Rgn.Only.growF ow12 sw12) F_x5
 have F_z:=fw12
 replace bel:=bel.left ow12
 refine wpList_nil ?_
 show _
 refine K11 _ _ ?_
 refine gs 4 (Amb S W) fun _ K13=>?_
 refine .mz rfl 0 (V:=pt z) rfl ?_
 refine .mz rfl 3 (V:=pt r) rfl ?_
 refine .mv rfl 0 ?_
 refine .mv rfl 1 ?_
 refine .dg (fun u=>pt z::.pointer (some ⟨b1,ob1,none⟩)::.pointer (some ⟨b2,ob2,none⟩)::pt r::U::U::U::U::u 2::u 3::u2 12::u2 13::u3 13::u3 14::u2 9::sq u2 0 9 (u2 10::u2 11::sq u3 0 13 (sq u4 0 4 (.pointer (some ⟨r,0,none⟩)::sq u5 0 3 (.pointer (some ⟨z,0,none⟩)::u 0::u 1::[]))))) K13 bel.size fun u6 w6 D=>?_
 have E6_2:=D.q 2
 have E6_3:=D.q 3
 replace F_r:=D.o L_r F_r
 replace F_z:=D.o L_z F_z
 replace bel:=bel.base D.d.base.grow.os D.d.base.grow.tape D.d.base.grow.output D.d.base.grow.size (fun k hk h1 h2=>D.d.base.block k (by omega) (by simp))
 clear D
 refine wp_ret ?_
 exact ret_ok rfl (by exact results_two rfl (by exact E6_2) (by exact E6_3)) ⟨rfl,(into_eq (sgn_tdiv) F_z),(into_eq (sgn_tmod) F_r),bel⟩
theorem bQuo{z:Nat}{v1 v2:Value}(x y:Int)(hz:IntBlk W z)(t1:(IntP x).p S v1 W)(t2:(IntP y).p S v2 W)(p0:hi x+hi y≤1099511627776)(p1:y≠0):Calls Tryz.prog 259 #[.pointer (some ⟨z,0,none⟩),v1,v2] W (RetOwn z (IntO (x.tdiv y)) W):=by
 have hS_:∃ S' : Nat→Prop,S' z∧(IntP x).p S' v1 W∧(IntP y).p S' v2 W:=⟨fun k=>S k∨k=z,.inr rfl,(IntP x).mono (fun _ _ h=>.inl h) t1,(IntP y).mono (fun _ _ h=>.inl h) t2⟩
 clear t1 t2
 obtain⟨S,L_z,t1,t2⟩:=hS_
 replace L_z:Amb S W z:=.inl L_z
 obtain⟨z_0,z_1,B_z⟩:=hz
 obtain⟨b1,ob1,rfl,L1,F1⟩:=IntP.elim t1
 replace L1:Amb S W b1:=.inl L1
 obtain⟨b2,ob2,rfl,L2,F2⟩:=IntP.elim t2
 replace L2:Amb S W b2:=.inl L2
 have bel:Only z W W:=Only.refl _ _
 go_enter Tryz.func259,Tryz.ntmps259
 refine gs 1 (Amb S W) fun _ K3=>?_
 refine .mc rfl ?_
 refine .dg (fun u=>pt z::.pointer (some ⟨b1,ob1,none⟩)::.pointer (some ⟨b2,ob2,none⟩)::U::U::U::u 0::us 6) K3 bel.size fun u1 w1 D=>?_
 have E1_0:=D.q 0
 replace B_z:=D.k B_z
 replace F1:=D.o L1 F1
 replace F2:=D.o L2 F2
 replace bel:=D.d.base.only0 bel
 clear D
 refine wp_seq_k fun _ K4=>?_
 refine go2_seqT 4 1 rfl (Amb S W) [] [] (Olds.nil _) (by kernel_rfl) ?_
 refine .mz rfl 0 (V:=pt z) rfl ?_
 refine .mz rfl 1 (V:=.pointer (some ⟨b1,ob1,none⟩)) rfl ?_
 refine .mz rfl 2 (V:=.pointer (some ⟨b2,ob2,none⟩)) rfl ?_
 refine .al rfl zI ?_
 refine .dT (fun u=>pt z::.pointer (some ⟨b1,ob1,none⟩)::.pointer (some ⟨b2,ob2,none⟩)::U::U::U::u1 0::sq u 0 5 (U::[])) bel.size _ rfl fun u2 w2 D=>?_
 obtain⟨b5,E2_3,A5,B5⟩:=D.nw 3
 have E2_0:=D.q 0
 have E2_1:=D.q 1
 have E2_2:=D.q 2
 have N_z_b5:=D.n1 3 (lt_of B_z) E2_3
 replace B_z:=D.k B_z
 replace F1:=D.o L1 F1
 replace F2:=D.o L2 F2
 replace bel:=D.d.base.only0 bel
 clear D
 refine wpT_callO2 (args:=#[pt z,.pointer (some ⟨b1,ob1,none⟩),.pointer (some ⟨b2,ob2,none⟩),pt b5]) rfl (ex_call rfl rfl Tryz.func301 (by kernel_rfl) (by kernel_rfl) (by simp only [List.map_toArray,List.map_cons,List.map_nil];show #[(u2 0).v,(u2 1).v,(u2 2).v,(u2 3).v]=#[pt z,.pointer (some ⟨b1,ob1,none⟩),.pointer (some ⟨b2,ob2,none⟩),pt b5];rw [E2_0,E2_1,E2_2,E2_3])) (bQuoRem (z:=z) (x:=x) (y:=y) (r:=b5) (IntBlk.of B_z) (VP.any _ F1) (VP.any _ F2) (IntBlk.of B5) N_z_b5 (by first|omega|exact p1) (by first|omega|exact p1)) fun w6 fw6a fw6b ow6=>?_
 have sw6_z:Soft w2 z∨Local w2 z:=.inl ⟨_,_,B_z,rfl⟩
 have sw6_b5:Soft w2 b5∨Local w2 b5:=.inl ⟨_,_,B5,rfl⟩
 have F_z:=fw6a
 have F5:=fw6b
 have L5:Amb S W b5:=.inr A5
 replace bel:=ow6.drop bel A5
 refine wpList_nil ?_
 show _
 refine K4 _ _ ?_
 refine gs 2 (Amb S W) fun _ K7=>?_
 refine .mz rfl 0 (V:=pt z) rfl ?_
 refine .mv rfl 0 ?_
 refine .dg (fun u=>pt z::.pointer (some ⟨b1,ob1,none⟩)::.pointer (some ⟨b2,ob2,none⟩)::U::U::U::u 1::sq u2 0 4 (.tuple #[pt z,pt b5]::u 0::[])) K7 bel.size fun u3 w3 D=>?_
 have E3_1:=D.q 1
 replace F_z:=D.o L_z F_z
 replace bel:=D.d.base.only0 bel
 clear D
 refine wp_ret ?_
 refine ret_ok rfl (by exact results_tmp' rfl (by exact E3_1)) ⟨rfl,?_,bel⟩
 exact F_z
end Go.Proofs.YtcdbmjnipaochaaGreat
namespace Go.Proofs.YtcdbmjnipaochaaGreat
open Go.RowKit Rgn
variable {S:Nat→Prop} {W:World}
theorem qNum{v0:Value}(q:Rat)(t0:(RatP q).p S v0 W)(p0:ht q≤68719476736):Calls Tryz.prog 138 #[v0] W (Ret (IntO q.num) S W):=by
 obtain⟨b1,rfl,L1,F1⟩:=RatP.elim t0
 replace L1:Amb S W b1:=.inl L1
 have n0:=hi_num q
 have bel:=b0 W
 go_enter Tryz.func138,Tryz.ntmps138
 refine gs 1 (Amb S W) fun _ K2=>?_
 refine .mc rfl ?_
 refine .dk (fun u=>pt b1::U::u 0::us 5) K2 bel fun u1 w1 D bel=>?_
 have E1_0:=D.q 0
 replace F1:=D.o L1 F1
 clear D
 refine gs 6 (Amb S W) fun _ K3=>?_
 refine .al rfl zI ?_
 refine .mz rfl 0 (V:=pt b1) rfl ?_
 refine .nc rfl 1 ?_
 refine .fj rfl 2 0 ?_
 refine .cO rfl 0 Tryz.func252 (fun H h0 hz=>⟨_,ar2 (H.p 3 0 h0) (H.g 6 3),bSet _ (IntBlk.of hz) (RatP.num (VP.any _ (H.was _ [] (VP.at F1 L1)))) (by omega)⟩) ?_
 refine .mo rfl 4 ?_
 refine .dk (fun u=>pt b1::U::u 5::sq u 0 5 []) K3 bel fun u2 w2 D bel=>?_
 obtain⟨b4,E2_5,A4,F4⟩:=D.ow 5
 have L4:Amb S W b4:=.inr A4
 clear D
 refine wp_ret ?_
 refine ret_ok rfl (by exact results_tmp' rfl (by exact E2_5)) ⟨_,rfl,?_,bel⟩
 exact (VP.at F4 L4)
theorem qDenom{v0:Value}(q:Rat)(t0:(RatP q).p S v0 W)(p0:ht q≤68719476736):Calls Tryz.prog 139 #[v0] W (Ret (IntO (q.den:Int)) S W):=by
 obtain⟨b1,rfl,L1,F1⟩:=RatP.elim t0
 replace L1:Amb S W b1:=.inl L1
 have n0:=hi_den q
 have bel:=b0 W
 go_enter Tryz.func139,Tryz.ntmps139
 refine gs 1 (Amb S W) fun _ K2=>?_
 refine .mc rfl ?_
 refine .dk (fun u=>pt b1::U::u 0::us 4) K2 bel fun u1 w1 D bel=>?_
 have E1_0:=D.q 0
 replace F1:=D.o L1 F1
 clear D
 refine gs 5 (Amb S W) fun _ K3=>?_
 refine .al rfl zI ?_
 refine .mz rfl 0 (V:=pt b1) rfl ?_
 refine .cR rfl [] Tryz.func222 (fun H=>⟨_,ar1 (H.g 4 1),bDen _ (H.was _ [] (VP.at F1 L1))⟩) ?_
 refine .cO rfl 0 Tryz.func252 (fun H h0 hz=>⟨_,ar2 (H.p 3 0 h0) (H.r 5 2),bSet _ (IntBlk.of hz) (SV.any (H.a 2 rfl)) (by omega)⟩) ?_
 refine .mo rfl 3 ?_
 refine .dk (fun u=>pt b1::U::u 4::sq u 0 4 []) K3 bel fun u2 w2 D bel=>?_
 obtain⟨b4,E2_4,A4,F4⟩:=D.ow 4
 have L4:Amb S W b4:=.inr A4
 clear D
 refine wp_ret ?_
 refine ret_ok rfl (by exact results_tmp' rfl (by exact E2_4)) ⟨_,rfl,?_,bel⟩
 exact (VP.at F4 L4)
theorem qSign{v0:Value}(q:Rat)(t0:(RatP q).p S v0 W):Calls Tryz.prog 91 #[v0] W (RetV (.int .i64 q.num.sign) W):=by
 obtain⟨b1,rfl,L1,F1⟩:=RatP.elim t0
 replace L1:Amb S W b1:=.inl L1
 have bel:=b0 W
 go_enter Tryz.func91,Tryz.ntmps91
 refine gs 1 (Amb S W) fun _ K2=>?_
 refine .mc rfl ?_
 refine .dk (fun u=>pt b1::U::u 0::us 4) K2 bel fun u1 w1 D bel=>?_
 have E1_0:=D.q 0
 replace F1:=D.o L1 F1
 clear D
 refine gs 5 (Amb S W) fun _ K3=>?_
 refine .mz rfl 0 (V:=pt b1) rfl ?_
 refine .nc rfl 0 ?_
 refine .fj rfl 1 0 ?_
 refine .cK rfl Tryz.func220 (fun H=>⟨_,ar1 (H.g 5 2),bSign _ (RatP.num (VP.any _ (H.was _ [] (VP.at F1 L1))))⟩) ?_
 refine .mv rfl 3 ?_
 refine .dk (fun u=>pt b1::U::u 4::sq u 0 4 []) K3 bel fun u2 w2 D bel=>?_
 have E2_4:=D.q 4
 clear D
 exact wp_ret (rt rfl E2_4 rfl bel)
theorem qCmp{v0 v1:Value}(x y:Rat)(t0:(RatP x).p S v0 W)(t1:(RatP y).p S v1 W)(p0:ht x+ht y≤68719476736):Calls Tryz.prog 92 #[v0,v1] W (RetV (.int .i64 (icmp (x.num*(y.den:Int)) (y.num*(x.den:Int)))) W):=by
 obtain⟨b1,rfl,L1,F1⟩:=RatP.elim t0
 replace L1:Amb S W b1:=.inl L1
 obtain⟨b2,rfl,L2,F2⟩:=RatP.elim t1
 replace L2:Amb S W b2:=.inl L2
 have n0:=hi_num x
 have n1:=hi_num y
 have n2:=hi_den x
 have n3:=hi_den y
 have m0:=hi_mul x.num (y.den:Int)
 have m1:=hi_mul y.num (x.den:Int)
 have bel:=b0 W
 go_enter Tryz.func92,Tryz.ntmps92
 refine gs 1 (Amb S W) fun _ K3=>?_
 refine .mc rfl ?_
 refine .dk (fun u=>pt b1::pt b2::U::U::u 0::us 15) K3 bel fun u1 w1 D bel=>?_
 have E1_0:=D.q 0
 replace F1:=D.o L1 F1
 replace F2:=D.o L2 F2
 clear D
 refine gd 16 (Amb S W) fun _ K4=>?_
 refine .al rfl zI ?_
 refine .mz rfl 0 (V:=pt b1) rfl ?_
 refine .nc rfl 1 ?_
 refine .fj rfl 2 0 ?_
 refine .mz rfl 1 (V:=pt b2) rfl ?_
 refine .cR rfl [] Tryz.func222 (fun H=>⟨_,ar1 (H.g 9 4),bDen _ (H.was _ [] (VP.at F2 L2))⟩) ?_
 refine .cO rfl 0 Tryz.func221 (fun H h0 hz=>⟨_,ar3 (H.p 5 0 h0) (H.g 8 3) (H.r 10 5),bMul _ _ (IntBlk.of hz) (RatP.num (VP.any _ (H.was _ [] (VP.at F1 L1)))) (SV.any (H.a 5 rfl)) (by omega)⟩) ?_
 refine .al rfl zI ?_
 refine .mz rfl 1 (V:=pt b2) rfl ?_
 refine .nc rfl 8 ?_
 refine .fj rfl 9 0 ?_
 refine .mz rfl 0 (V:=pt b1) rfl ?_
 refine .cR rfl [] Tryz.func222 (fun H=>⟨_,ar1 (H.g 16 11),bDen _ (H.was _ [] (VP.at F1 L1))⟩) ?_
 refine .cO rfl 7 Tryz.func221 (fun H h0 hz=>⟨_,ar3 (H.p 12 7 h0) (H.g 15 10) (H.r 17 12),bMul _ _ (IntBlk.of hz) (RatP.num (VP.any _ (H.was _ [] (VP.at F2 L2)))) (SV.any (H.a 12 rfl)) (by omega)⟩) ?_
 refine .cK rfl Tryz.func210 (fun H=>⟨_,ar2 (H.r 11 6) (H.r 18 13),bCmp _ _ (IntO.p (Own.any (H.a 6 rfl))) (IntO.p (Own.any (H.a 13 rfl))) (by omega)⟩) ?_
 refine .mv rfl 14 ?_
 refine .dk (fun u=>pt b1::pt b2::U::U::u 15::sq u 0 15 []) K4 bel fun u2 w2 D bel=>?_
 have E2_15:=D.q 15
 clear D
 exact wp_ret (rt rfl E2_15 rfl bel)
end Go.Proofs.YtcdbmjnipaochaaGreat
namespace Go.Proofs.YtcdbmjnipaochaaGreat.Rgn
open Go.RowKit
variable {P:Program} {ops:Array Oper} {a0:Act} {w0:World} {B0:Nat} {R0:Nat→Prop} {olds:List (Nat×Nat)} {F:List (Pl B0 R0 olds)→Prop}
theorem TodoG.storeSoft{k:Nat}{plan:List (Pl B0 R0 olds)}(i x z:Nat)(hi:plan.length=i)(o:Oper)(ho:ops[i]? = some o)(hg:o.guard=none)(hx:olds[x]? = some (z,i))(hl:Soft w0 z)(hR:¬ R0 z)(s:SP B0 R0 olds)(h:∀ u w ρ,Here ops a0 olds w0 plan i u w ρ→∃ w', (execOp ρ o).run P w=.ok .skip w'∧(∀ g,s.p (upd u i g) w')∧Only z w w')(rest:TodoG P ops a0 w0 F k (plan++[.op none s])):TodoG P ops a0 w0 F (k+1) plan:=by
 subst hi
 refine⟨.op none s,fun o' ho' u w ρ hE hB hO hf hbl=>.inr ⟨?_,?_⟩,rest⟩
 ·rw [ho] at ho';cases ho';exact wanted_none hg _
 ·rw [ho] at ho';cases ho'
  obtain⟨w', h1,h2,h3⟩:=h u w ρ ⟨hE,hB,hO,hf⟩
  refine .inr (.inl ⟨w', h1,h2 _,⟨h3.os,h3.tape,h3.output,h3.size,fun k hk=>?_⟩⟩)
  by_cases hkb:k=z
  ·subst hkb
   refine .inr (.inr ⟨⟨x,hx⟩,.inr ⟨?_,hR⟩⟩)
   unfold Soft
   rw [hO x k _ hx (.inl rfl)]
   exact hl
  ·exact .inl (h3.block k hk hkb)
theorem Go2.storeSoft{k i:Nat}{rp:List (Nat×Pl B0 R0 olds)}(x z:Nat){o:Oper}(ho:ops[i]? = some o)(hg:o.guard=none)(hx:olds[x]? = some (z,i))(hl:Soft w0 z)(hR:¬ R0 z)(s:SP B0 R0 olds)(h:∀ u w ρ,Here2 ops a0 olds w0 rp i u w ρ→∃ w', (execOp ρ o).run P w=.ok .skip w'∧(∀ g,s.p (upd u i g) w')∧Only z w w')(rest:Go2 P ops a0 w0 F k (i+1) ((i,.op none s)::rp)):Go2 P ops a0 w0 F (k+1) i rp:=fun hwf =>
 TodoG.storeSoft i x z hwf.len o ho hg hx hl hR s (fun u w ρ H=>h u w ρ ⟨H,hwf⟩) (Go2.next hwf rest)
end Go.Proofs.YtcdbmjnipaochaaGreat.Rgn
namespace Go.Proofs.YtcdbmjnipaochaaGreat
open Go.RowKit Rgn
def IntV(n:Int):VP:=VP.two (.is (.bool (decide (n<0)))) (MagP n.natAbs)
theorem Rgn.SP.intV{B0:Nat}{R0:Nat→Prop}{olds:List (Nat×Nat)}{i:Nat}{near:List Nat}{n:Int}{a b:Nat}{u:Nat→Got}{w:World}{v:Value}(h:Mag w v n.natAbs):(SP.val (B0:=B0) (R0:=R0) (olds:=olds) i near (IntV n)).p (upd u i ⟨.agg #[.bool (decide (n<0)),v],a,b⟩) w:=by
 show (IntV n).p _ (upd u i _ i).v w
 rw [upd_same];exact⟨_,v,rfl,rfl,h⟩
theorem RatP.of{a b:Int}{q:Rat}(h:a=q.num)(h': b=(q.den:Int)){z:Nat}{w:World}{v1 v2:Value}(hB:w.heap[z]? = some (.cells #[.bool (decide (a<0)),v1,.bool (decide (b<0)),v2] 212 (0,0)))(h1:Mag w v1 a.natAbs)(h2:Mag w v2 b.natAbs):(RatP q).p (·=z) (.pointer (some ⟨z,0,none⟩)) w:=by
 subst h;subst h'
 rw [decide_eq_false (show ¬ (q.den:Int)<0 by omega)] at hB
 exact⟨z,rfl,rfl,.inl ⟨v1,v2,hB,h1,h2⟩⟩
theorem sf_1{a b:Int}(h:b<0):a.tdiv (-(Int.gcd a b:Int))=(Rat.divInt a b).num∧b.tdiv (-(Int.gcd a b:Int))=((Rat.divInt a b).den:Int):=by
 have hy:b≠0:=by omega
 have ha:(-(Int.gcd a b:Int)) ∣ a:=Int.neg_dvd.2 (Int.gcd_dvd_left a b)
 have hb:(-(Int.gcd a b:Int)) ∣ b:=Int.neg_dvd.2 (Int.gcd_dvd_right a b)
 rw [Int.tdiv_eq_ediv_of_dvd ha,Int.tdiv_eq_ediv_of_dvd hb]
 have hs:b.sign=-1:=by have:=sign3 b;omega
 constructor
 ·rw [Rat.num_divInt,hs,Int.gcd_comm b a,Int.ediv_neg,Int.neg_one_mul,Int.neg_ediv_of_dvd (Int.gcd_dvd_left a b)]
 ·rw [Rat.den_divInt,if_neg hy,Int.gcd_comm b a,Int.natCast_ediv,Int.ediv_neg,show ((b.natAbs:Nat):Int)=-b by omega,Int.neg_ediv_of_dvd (Int.gcd_dvd_right a b)]
theorem sf_2{a b:Int}(hy:b≠0)(h:¬ b<0):a.tdiv (Int.gcd a b:Int)=(Rat.divInt a b).num∧b.tdiv (Int.gcd a b:Int)=((Rat.divInt a b).den:Int):=by
 rw [Int.tdiv_eq_ediv_of_dvd (Int.gcd_dvd_left a b),Int.tdiv_eq_ediv_of_dvd (Int.gcd_dvd_right a b)]
 have hs:b.sign=1:=by have:=sign3 b;omega
 constructor
 ·rw [Rat.num_divInt,hs,Int.gcd_comm b a,Int.one_mul]
 ·rw [Rat.den_divInt,if_neg hy,Int.gcd_comm b a,Int.natCast_ediv,show ((b.natAbs:Nat):Int)=b by omega]
end Go.Proofs.YtcdbmjnipaochaaGreat
