import Derived.Test.YtcdbmjnipaochaaGreatP01
import Derived.Laws.CopyOwn
import Derived.Outline
import Derived.Lib.MinMax
import Derived.StillTailTactics
import Derived.Deep.DeepCutAuto
import Derived.IntWalk
import Derived.ShutString
import Derived.Laws.IdiomStrings
set_option linter.unusedVariables false
set_option linter.unusedSimpArgs false
set_option maxHeartbeats 8000000
set_option maxRecDepth 100000
namespace Go.Proofs.YtcdbmjnipaochaaGreat
open Go.RowKit Rgn
theorem Words.sub{w:World}{b off n c:Nat}{l:List Nat}(h:Words w (.slice (some ⟨b,off,none⟩) n c) l)(j k:Nat)(hk:j+k≤n):Words w (.slice (some ⟨b,off+j,none⟩) k (c-j)) ((l.drop j).take k):=by
 rcases h with⟨e,_⟩|⟨b', off', cap,cur,fr,e,h2,h3,h4,h5⟩
 ·cases e
 ·cases e
  have hl:((l.drop j).take k).length=k:=by rw [List.length_take,List.length_drop];omega
  have:Words w (.slice (some ⟨b,off+j,none⟩) ((l.drop j).take k).length (c-j)) ((l.drop j).take k):=by
   refine .inr ⟨b,off+j,c-j,cur,fr,rfl,h2,by omega,by omega,fun i x hx=>?_⟩
   rw [List.getElem?_take,List.getElem?_drop] at hx
   split at hx
   ·have:=h5 (j+i) x hx
    rwa [← Nat.add_assoc] at this
   ·cases hx
  rwa [hl] at this
theorem Words.one{w:World}{x:Nat}{z:Int}(hz:z=(x:Int))(hx:x<4294967296):Words (w.alloc (.cells #[.int .u32 z] 315)) (.slice (some ⟨w.heap.size,0,none⟩) 1 1) [x]:=by
 subst hz
 refine .inr ⟨w.heap.size,0,1,_,_,rfl,(MapKept.heap_alloc w _).1,by simp,by omega,fun i y hy=>?_⟩
 match i,hy with
 | 0,hy=>simp at hy;subst hy;exact⟨rfl,hx⟩
theorem Blk.low{w w': World}{b:Nat}{l:List Nat}(h:Blk w b l)(hb:Below w.heap.size w w'):Blk w' b l:=by
 unfold Blk at *;rw [hb.block b (lt_of h)];exact h
theorem Words.alloc{w:World}{v:Value}{l:List Nat}(h:Words w v l)(o:Obj):Words (w.alloc o) v l:=h.low (Below.alloc (Below.refl _ _) (Nat.le_refl _) o)
theorem cmp3_le(a b:Nat):decide (cmp3 a b≤0)=decide (a≤b):=by
 unfold cmp3
 split
 ·simp;omega
 ·split
  ·simp;omega
  ·simp;omega
theorem reffits_any(b off c:Nat)(v:Value)(l m:List Nat)(j g:Nat)(w:World)(h:Words w (.slice (some ⟨b,off,none⟩) l.length c) l)(h': Words w v m)(hj:j+m.length+1≤l.length)(hg:g<4294967296)(hl:m.length≤274877906944):Calls Tryz.prog 322 #[.slice (some ⟨b,off,none⟩) l.length c,v,.int .i64 j,.int .u64 g] w fun e w' => e=.returned (.bool (decide (g*val m≤val ((l.drop j).take (m.length+1)))))∧Below w.heap.size w w' := by
 obtain⟨a,c', rfl,hc1,hc2⟩:=h'.len
 obtain⟨_,_,_,hc3,hc4⟩:=h.len
 have hsub:=h.sub j (m.length+1) (by omega)
 have H1:=Lib.hid hsub;have H2:=Lib.hid h'
 clear h h' hsub
 go_enter Tryz.func322,Tryz.ntmps322
 go_wp2_with fail
 go_call (refproduct_any _ _ [g] m _ (Words.one (w:=w) (by omega) hg) (H2.out.alloc _) (by simp) hl) as _ w1 ⟨v1,rfl,⟨l1,hm1,hm2,hm3⟩,hW1⟩
 have hW2:Below w.heap.size w w1:=(Below.alloc (Below.refl _ _) (Nat.le_refl _) _).trans (hW1.mono (by simp))
 have H3:Hid (Words w1 (.slice (some ⟨b,off+j,none⟩) (j+m.length+1-j) (c-j)) ((l.drop j).take (m.length+1))):=by
  have:=H1.out.low hW2
  rwa [show j+m.length+1-j=m.length+1 by omega]
 clear H1 H2
 have HM:=Lib.hid hm3
 have HE:Hid (val [g]=g):=by show _=_;simp [val]
 clear hm3
 go_wp2_with fail
 go_call (refcut_any _ _ _ H3.out) as _ _ ⟨rfl,rfl⟩
 go_wp2_with fail
 go_call (refunder_any _ _ _ _ _ hm1 H3.out.cut hm2 (trim_canon _)) as _ _ ⟨rfl,n,rfl⟩
 go_wp2
 go_ret
 refine⟨?_,below_drewN hW2 n⟩
 show Ending.returned (.bool (decide (cmp3 (val l1) (val (trim ((l.drop j).take (m.length+1))))≤0)))=_
 rw [cmp3_le,val_trim,HM.out,HE.out]
theorem Blk.other{w:World}{b b': Nat}{l:List Nat}(h:Blk w b l)(hne:b'≠b)(i:Nat)(v:Value):Blk (w.setCell ⟨b', i,none⟩ v) b l:=by
 unfold Blk at *
 simp only [World.setCell,Array.getElem?_modify]
 rw [if_neg hne];exact h
theorem Words.setCell{w:World}{v:Value}{l:List Nat}{B n:Nat}(h:Words w v l)(b i:Nat)(x:Value)(hB:w.heap.size≤b):Words (w.setCell ⟨b,i,none⟩ x) v l :=
 h.low (Below.setCell (Below.refl _ _) (by simpa using hB) _)
theorem val_take_low{D:List Nat}(hb:Bd D){k:Nat}(h:val D<4294967296^k):val (D.take k)=val D:=by
 rcases Nat.lt_or_ge D.length k with hk|hk
 ·exact val_take_all (by omega)
 ·have e:=val_split D k hk
  have:=val_div hb k
  rw [Nat.div_eq_of_lt h] at this
  rw [← this] at e
  omega
theorem top_lt{U:List Nat}{j n:Nat}(hb:Bd U)(hn:0<n):val ((U.drop j).take (n+1))<(U.getD (j+n) 0*4294967296+U.getD (j+n-1) 0+1)*4294967296^(n-1):=by
 obtain⟨n,rfl⟩:∃ k,n=k+1:=⟨n-1,by omega⟩
 rw [val_take_succ,val_take_succ,getD_drop,getD_drop,Nat.pow_succ]
 have h1:=val_lt ((hb.drop j).take n)
 have h2:4294967296^((U.drop j).take n).length≤4294967296^n:=Nat.pow_le_pow_right (by decide) (by rw [List.length_take];omega)
 rw [show j+(n+1)-1=j+n by omega,show n+1-1=n by omega]
 generalize U.getD (j+n) 0=x
 generalize U.getD (j+(n+1)) 0=y
 rw [Nat.add_mul,Nat.add_mul,Nat.one_mul,show y*4294967296*4294967296^n=4294967296^n*4294967296*y by ac_rfl,Nat.mul_comm x]
 omega
theorem top_le{V:List Nat}{n:Nat}(hV:V.length=n)(hn:0<n):V.getD (n-1) 0*4294967296^(n-1)≤val V:=by
 obtain⟨n,rfl⟩:∃ k,n=k+1:=⟨n-1,by omega⟩
 rw [← val_take_all (l:=V) (i:=n+1) (by omega),val_take_succ,show n+1-1=n by omega,Nat.mul_comm]
 omega
theorem high_digits{A v:Nat}{U q:List Nat}{j n:Nat}(hb:Bd U)(h:Div A v (j+1) U q)(hv:v<4294967296^n):val ((U.drop j).take (n+1))=val U/4294967296^j:=by
 rw [val_take_low (hb.drop j),val_div hb]
 rw [← val_div hb]
 rw [Nat.div_lt_iff_lt_mul (Nat.pow_pos (by decide))]
 refine Nat.lt_of_lt_of_le h.lt ?_
 rw [← Nat.pow_add]
 refine Nat.le_trans (Nat.mul_le_mul_right _ (Nat.le_of_lt hv)) ?_
 rw [← Nat.pow_add]
 exact Nat.pow_le_pow_right (by decide) (by omega)
theorem Div.pos{A V k:Nat}{u q:List Nat}(h:Div A V k u q):0<V:=by
 rcases Nat.eq_zero_or_pos V with h0|h0
 ·subst h0;have:=h.lt;simp at this
 ·exact h0
theorem guess_top{A:Nat}{V U q:List Nat}{j n:Nat}(hb:Bd U)(bV:Bd V)(cV:Canon V)(hV:V.length=n)(hn:0<n)(h:Div A (val V) (j+1) U q):val U/4294967296^j/val V≤(U.getD (j+n) 0*4294967296+U.getD (j+n-1) 0)/V.getD (n-1) 0∧0<V.getD (n-1) 0:=by
 have hvl:=val_lt bV
 rw [hV] at hvl
 have h0:0<V.getD (n-1) 0:=by
  rcases Nat.eq_zero_or_pos (V.getD (n-1) 0) with h0|h0
  ·exfalso
   apply cV
   rw [List.getLast?_eq_getElem?,hV]
   have:n-1<V.length:=by omega
   rw [List.getElem?_eq_getElem this]
   rw [List.getD_eq_getElem?_getD,List.getElem?_eq_getElem this,Option.getD_some] at h0
   rw [h0]
  ·exact h0
 refine⟨?_,h0⟩
 rw [← high_digits hb h hvl]
 exact guess_ge (top_lt hb hn) (top_le hV hn) h0 (Nat.pow_pos (by decide))
theorem sub_done{A:Nat}{V U L q:List Nat}{j n c:Nat}(bL:Bd L)(hL:∀ i,j+n+1≤i→L.getD i 0=0)(h:Div A (val V) (j+1) U q)(hs:val L+4294967296^j*(val U/4294967296^j/val V*val V)=val U+4294967296^(j+(n+1))*c):val L+4294967296^j*(val U/4294967296^j/val V*val V)=val U:=by
 have h1:=val_low bL hL
 have h2:4294967296^j*(val U/4294967296^j/val V*val V)≤val U:=by
  refine Nat.le_trans (Nat.mul_le_mul_left _ (Nat.div_mul_le_self _ _)) ?_
  rw [Nat.mul_comm];exact Nat.div_mul_le_self _ _
 have h3:c=0:=by
  rcases Nat.eq_zero_or_pos c with h0|h0
  ·exact h0
  ·have h4:4294967296^(j+(n+1))*1≤4294967296^(j+(n+1))*c:=Nat.mul_le_mul_left _ h0
   rw [← Nat.add_assoc] at h4 hs
   generalize 4294967296^(j+n+1)=B at *
   generalize 4294967296^j*(val U/4294967296^j/val V*val V)=G at *
   omega
 subst h3
 rw [Nat.mul_zero,Nat.add_zero] at hs
 exact hs
theorem high_zero{A v:Nat}{U q:List Nat}{j n:Nat}(hb:Bd U)(h:Div A v (j+1) U q)(hv:v<4294967296^n):∀ i,j+n+1≤i→U.getD i 0=0:=by
 refine fun i hi=>low_digits hb ?_ i hi
 refine Nat.lt_of_lt_of_le h.lt ?_
 refine Nat.le_trans (Nat.mul_le_mul_right _ (Nat.le_of_lt hv)) ?_
 rw [← Nat.pow_add]
 exact Nat.pow_le_pow_right (by decide) (by omega)
theorem norm_len{m V:List Nat}{M s:Nat}(hm:m.length=M+1)(bm:Bd m)(cm:Canon m)(bV:Bd V)(cV:Canon V)(hs:s+blen (m.getD M 0)=32)(hV:val V=val m*2^s):V.length=M+1:=by
 have hne:m≠[]:=by intro e;subst e;simp at hm
 have h1:=canon_ge cm hne
 rw [hm,Nat.add_sub_cancel] at h1
 have h2:val m*2^s<4294967296^(M+1):=by
  rw [← val_take_all (l:=m) (i:=M+1) (by omega),val_take_succ,Nat.pow_succ]
  have h3:=val_lt (bm.take M)
  have h4:4294967296^(m.take M).length≤4294967296^M:=Nat.pow_le_pow_right (by decide) (by rw [List.length_take];omega)
  have h5:=blen_lt (m.getD M 0)
  have h6:2^blen (m.getD M 0)*2^s=4294967296:=by rw [← Nat.pow_add,Nat.add_comm,hs]
  have h7:(val (m.take M)+4294967296^M*m.getD M 0)<4294967296^M*(m.getD M 0+1):=by rw [Nat.mul_add];omega
  have h8:4294967296^M*(m.getD M 0+1)≤4294967296^M*2^blen (m.getD M 0):=Nat.mul_le_mul_left _ h5
  have h9:(val (m.take M)+4294967296^M*m.getD M 0)*2^s<4294967296^M*2^blen (m.getD M 0)*2^s :=
   Nat.mul_lt_mul_of_pos_right (Nat.lt_of_lt_of_le h7 h8) (Nat.pow_pos (by decide))
  rwa [Nat.mul_assoc _ _ (2^s),h6] at h9
 have h3:val m≤val V:=by rw [hV];exact Nat.le_mul_of_pos_right _ (Nat.pow_pos (by decide))
 have a:=canon_len_le bm bV cm h3
 have b:=(canon_len bV cV (k:=M+1)).2 (by rw [hV];exact h2)
 omega
theorem div_room{l m:List Nat}{K N n s:Nat}(bl:Bd l)(cm:Canon m)(hm:m.length=n)(hn:0<n)(hK:l.length+1≤K+n):val l*2^s<val m*2^s*4294967296^K:=by
 have hne:m≠[]:=by intro e;subst e;simp at hm;omega
 have h1:=canon_ge cm hne
 have h2:=val_lt bl
 have h3:4294967296^l.length≤4294967296^(m.length-1)*4294967296^K:=by rw [← Nat.pow_add];exact Nat.pow_le_pow_right (by decide) (by omega)
 have h4:4294967296^(m.length-1)*4294967296^K≤val m*4294967296^K:=Nat.mul_le_mul_right _ h1
 rw [show val m*2^s*4294967296^K=val m*4294967296^K*2^s by ac_rfl]
 exact Nat.mul_lt_mul_of_pos_right (by omega) (Nat.pow_pos (by decide))
theorem setRow_only'(w:World)(g:Nat)(c:Array Value):Only g w (w.setRow g c) :=
 ⟨rfl,rfl,rfl,by simp [World.setRow],fun k _ hne=>by simp only [World.setRow,Array.getElem?_modify];rw [if_neg (Ne.symm hne)]⟩
theorem wpList_copyw{ops:Array Oper}{rest:List Oper}{o:Oper}{a:Act}{Q:Exit→Act→World→Prop}{w:World}(hgd:o.guard=none)(d s:Operand)(ho:o.op=.call { callee:=.builtin .copy,args:=#[d,s],argTypes:=#[208,208] })(b:Nat)(L l:List Nat)(n:Nat)(v:Value)(hK:Blk w b L)(hw:Words w v l)(hn:n=L.length)(hl:l.length≤L.length)(hd:a.eval d=.slice (some ⟨b,0,none⟩) n n)(hs:a.eval s=v){R:List Nat}(hR:l++L.drop l.length=R)(h:∀ w', Blk w' b R→Only b w w'→wpList Tryz.prog ops Q rest (a.put o.dst (goInt l.length)) w'):wpList Tryz.prog ops Q (o::rest) a w:=by
 subst hn
 subst hR
 obtain⟨p,c,rfl,hc1,hc2⟩:=hw.len
 obtain⟨i0,hi,hz0,hz1,hz2⟩:=info_parts info_u32
 have hcs:(u32s l).length=l.length:=by simp [u32s]
 by_cases h0:l.length=0
 ·have e:l=[]:=List.length_eq_zero_iff.1 h0
  subst e
  refine wpList_copy_nothing hgd d s 208 208 ho 315 Tryz.underlying208 (by rw [hi];simp [hz1]) _ p L.length L.length _ c hd hs (by simp) ?_
  exact h w (by simpa using hK) (Only.refl _ _)
 ·rcases hw with⟨e,e2⟩|⟨b', off,cap,cur,fr,e,h2,h3,h4,h5⟩
  ·subst e2;simp at h0
  ·cases e
   have:=wpList_copy_own (rest:=rest) (Q:=Q) (ops:=ops) hgd d s 208 208 ho 315 Tryz.underlying208 (by rw [hi];simp [hz1]) b 0 L.length L.length ⟨b', off,none⟩ l.length c hd hs (wcells L) 315 hK (u32s l) (by rw [hcs];exact (Nat.min_eq_left hl).symm) ?_ (by rw [hcs,wcells_size];omega) ?_
   ·refine this ?_
    rw [hcs]
    refine h _ ?_ (setRow_only' _ _ _)
    unfold Blk
    rw [setRow_heap _ _ _ _ _ _ hK]
    simp [u32s,wcells,List.map_drop]
   ·intro j x hj
    simp only [u32s,List.getElem?_map,Option.map_eq_some_iff] at hj
    obtain⟨y,hy,rfl⟩:=hj
    have h6:=(h5 j y hy).1
    have e:(⟨b', off,none⟩:Addr).add j=⟨b', off+j,none⟩:=by unfold Addr.add;split<;>simp_all
    rw [e]
    simp [World.cell?,h2,h6]
   ·intro x hx
    simp only [u32s,List.mem_map] at hx
    obtain⟨y,_,rfl⟩:=hx
    rfl
theorem only_below{b n:Nat}{w w': World}(h:Only b w w')(hn:n≤b)(hs:n≤w.heap.size):Below n w w' :=
 ⟨h.os,h.tape,h.output,h.size,fun k hk=>h.block k (by omega) (by omega)⟩
theorem refdivided_long(v v': Value)(l m:List Nat)(w:World){M:Nat}(h:Words w v l)(h': Words w v' m)(cl:Canon l)(cm:Canon m)(hm:m.length=M+1)(hM:1≤M)(hle:val m≤val l)(hl:l.length≤137438953472):Calls Tryz.prog 303 #[v,v'] w fun e w' => ∃ q r,e=.returned (.tuple #[q,r])∧Mag w' q (val l/val m)∧Mag w' r (val l%val m)∧Below w.heap.size w w' := by
 have Hb:=h.bd
 have Hb' := h'.bd
 have hml:=canon_len_le Hb' Hb cm hle
 obtain⟨a,c,rfl,hc1,hc2⟩:=h.len
 obtain⟨a', c', rfl,hc1', hc2'⟩:=h'.len
 have hcmp:¬ cmp3 (val l) (val m)<0:=by unfold cmp3;rw [if_neg (by omega)];split<;>omega
 have hbl:blen (m.getD M 0)≤32:=blen_le (by have:=Hb'.getD M;omega)
 have hbl0:1≤blen (m.getD M 0):=by
  rcases Nat.eq_zero_or_pos (m.getD M 0) with h0|h0
  ·exfalso
   apply cm
   have:M<m.length:=by omega
   rw [List.getLast?_eq_getElem?,hm,Nat.add_sub_cancel,List.getElem?_eq_getElem this]
   rw [List.getD_eq_getElem?_getD,List.getElem?_eq_getElem this,Option.getD_some] at h0
   rw [h0]
  ·unfold blen;rw [if_neg (by omega)];omega
 have hm1:(((M:Int)+1) == 1)=false:=by rw [beq_eq_false_iff_ne];omega
 have HBI:=fun (u:World) (hb:Below w.heap.size w u)=>refbits_any (.slice a' m.length c') m u (h'.low hb) hm (by omega)
 have hu:=refunder_any _ _ l m w h h' cl cm
 obtain⟨s,hs⟩:∃ s,s+blen (m.getD M 0)=32:=⟨32-blen (m.getD M 0),by omega⟩
 have H1:=Lib.hid h;have H2:=Lib.hid h'
 have HN:∀ V,Hid (Bd V→Canon V→val V=val m*2^s→V.length=M+1):=fun V b1 b2 b3=>norm_len hm Hb' cm b1 b2 hs b3
 obtain⟨K,hK⟩:∃ K,K+(M+1)=l.length+2:=⟨l.length+2-(M+1),by omega⟩
 have HR:Hid (val l*2^s<val m*2^s*4294967296^K):=div_room (N:=0) (n:=M+1) Hb cm hm (by omega) (by omega)
 rw [hm] at hc1' HBI hu
 have hml' : M+1≤l.length:=by omega
 have hmk:=make_words ((l.length:Int)+2) (l.length+2) (by omega) (by omega)
 generalize blen (m.getD M 0)=bb at *
 clear h h' cl cm hle
 have e32:32*((M:Int)+1)-(32*(M:Int)+(bb:Int))=s:=by omega
 go_enter Tryz.func303,Tryz.ntmps303
 go_wp2_with fail
 go_call hu as _ _ ⟨rfl,n,rfl⟩
 go_wp2_with fail
 go_call (HBI (w.drewN n) (below_drewN (Below.refl _ _) n)) as _ _ ⟨rfl,rfl⟩
 go_wp2_with fail
 have hup:=fun (u:World) (hb:Below w.heap.size w u)=>refup_any _ _ s u ((H2.out.low hb)) (by omega) (by omega)
 rw [hm] at hup
 go_call (hup (w.drewN n) (below_drewN (Below.refl _ _) n)) as _ w1 ⟨vV,rfl,⟨V,hV1,hV2,hV3⟩,hW1⟩
 have hWa:Below w.heap.size w w1:=(below_drewN (Below.refl _ _) n).trans hW1
 have hVl:=(HN V).out hV1.bd hV2 hV3
 obtain⟨pV,cV,rfl,hcV1,hcV2⟩:=hV1.len
 have HbV:=Lib.hid hV1.bd
 have HcV:=Lib.hid hV2
 have HvV:=Lib.hid hV3
 have HV:=Lib.hid hV1
 rw [hVl] at hcV1
 have eV:V.length=M+1:=hVl
 have HeV:=Lib.hid eV
 clear hV1 hV2 hV3 hVl hW1 HN hup hu HBI
 rw [eV]
 clear eV
 have hK1:=Blk.alloc w1 (List.replicate (l.length+2) 0)
 have hWb:Below w.heap.size w (w1.alloc (.cells (wcells (List.replicate (l.length+2) 0)) 315)):=hWa.alloc hWa.size _
 have hb1:w.heap.size≤w1.heap.size:=hWa.size
 have HU0:Hid (∀ L0,val L0=val l*2^s→Bd L0→Canon L0→L0.length≤l.length+1):=show _ from by
  intro L0 h1 h2 h3
  refine (canon_len h2 h3).2 ?_
  rw [h1,Nat.pow_succ]
  have h4:=val_lt Hb
  have h5:2^s≤2^32:=Nat.pow_le_pow_right (by decide) (by omega)
  have h6:0<2^s:=Nat.pow_pos (by decide)
  calc val l*2^s<4294967296^l.length*2^s:=Nat.mul_lt_mul_of_pos_right h4 h6
   _≤_:=Nat.mul_le_mul_left _ h5
 go_wp2_with fail
 go_call (refup_any _ _ s _ ((H1.out.low hWa).alloc _) (by omega) (by omega)) as _ w3 ⟨vL,rfl,⟨L0,hL1,hL2,hL3⟩,hW3⟩
 have hlen0:=HU0.out L0 hL3 hL1.bd hL2
 have hK3:=hK1.low hW3
 have HL:=Lib.hid hL1
 have HK3:=Lib.hid hK3
 have hU0:Hid (val (L0++(List.replicate (l.length+2) 0).drop L0.length)=val l*2^s):=show _=_ by
  rw [val_append,hL3,List.drop_replicate,val_replicate];omega
 have bU0:=Lib.hid (hL1.bd.append ((Bd.replicate (l.length+2)).drop L0.length))
 have lU0:(L0++(List.replicate (l.length+2) 0).drop L0.length).length=l.length+2:=by simp;omega
 obtain⟨U0,hU0'⟩:∃ U,L0++(List.replicate (l.length+2) 0).drop L0.length=U:=⟨_,rfl⟩
 rw [hU0'] at hU0 bU0 lU0
 have HU0:=Lib.hid hU0'
 clear hU0'
 have hW13:Below w1.heap.size w1 w3:=((Below.alloc (Below.refl _ _) (Nat.le_refl _) _)).trans (hW3.mono (by simp))
 have hb13:=lt_of hK3
 clear hL1 hL2 hL3 hK1 hK3 hW3 hWb
 go_wp2_with (with_reducible refine wpList_copyw (w:=w3) ?_ (.tmp 55) (.tmp 58) ?_ w1.heap.size (List.replicate (l.length+2) 0) L0 (l.length+2) vL HK3.out HL.out ?_ ?_ ?_ ?_ HU0.out ?_)
 ·rfl
 ·rfl
 ·simp
 ·simp;omega
 ·rfl
 ·rfl
 intro w4 hK4 hO4
 have hW4:Below w1.heap.size w1 w4:=hW13.trans (only_below hO4 (Nat.le_refl _) (by omega))
 have hb14:w1.heap.size<w4.heap.size:=lt_of hK4
 have HK4:=Lib.hid hK4
 clear hK4 hO4 hW13 hb13 HL HK3 hlen0
 have hmk2:=make_words (((l.length:Int)+2)-((M:Int)+1)) K (by omega) (by omega)
 go_wp2_with fail
 have hK5:Blk (w4.alloc (.cells (wcells (List.replicate K 0)) 315)) w4.heap.size (List.replicate K 0):=Blk.alloc _ _
 have HK4' := Lib.hid (HK4.out.low (Below.alloc (Below.refl _ _) (Nat.le_refl _) (.cells (wcells (List.replicate K 0)) 315)))
 have HW5:Below w1.heap.size w1 (w4.alloc (.cells (wcells (List.replicate K 0)) 315)):=hW4.alloc (by omega) _
 have HK5:=Lib.hid hK5
 clear hK5 HK4
 have HD:Hid (Div (val l*2^s) (val V) K U0 (List.replicate K 0)):=by
  have:=Div.start (q:=List.replicate K 0) (u:=U0) (V:=val V) (N:=0) (n:=0) hU0.out (val_replicate _) (by rw [List.length_replicate,HvV.out];exact HR.out)
  rwa [List.length_replicate] at this
 clear HR hU0
 obtain⟨b1,hb1'⟩:∃ b,w1.heap.size=b:=⟨_,rfl⟩
 obtain⟨b2,hb2'⟩:∃ b,w4.heap.size=b:=⟨_,rfl⟩
 rw [hb1'] at HK4' HW5 hW4 hb14 hb1 ⊢
 rw [hb2'] at HK5 hb14 ⊢
 generalize w4.alloc (.cells (wcells (List.replicate K 0)) 315)=w5 at *
 have hbU:=Lib.hid (And.intro hb1 hb1')
 have HbV' := HbV.out
 have hne12:b1≠b2:=by omega
 have hKz:(l.length:Int)+2-(M+1)-1=(K:Int)-1:=by omega
 rw [hKz]
 go_loopw [13] (fun v13 wr=>∃ (k:Nat) (U Q:List Nat),v13=.int .i64 ((k:Int)-1)∧k≤K∧U.length=l.length+2∧Q.length=K∧Hid (Bd U)∧Hid (Bd Q)∧Hid (Div (val l*2^s) (val V) k U Q)∧Hid (Blk wr b1 U)∧Hid (Blk wr b2 Q)∧Hid (Below b1 w1 wr)) (fun v13 _=>(intOf v13+1).toNat)
 case atStart=>exact⟨K,U0,List.replicate K 0,rfl,Nat.le_refl _,lU0,by simp,bU0,Bd.replicate _,HD,HK4', HK5,HW5⟩
 case round =>
  obtain⟨k,U,Q,rfl,hk,hUl,hQl,HBU,HBQ,HD,HKU,HKQ,HW⟩:=hrel
  cases k with
  | zero =>
   have hwQ:=HKQ.out.all HBQ.out (cap:=K) (by omega) (by omega)
   have hwU:=HKU.out.all HBU.out (cap:=l.length+2) (by omega) (by omega)
   rw [hQl] at hwQ
   rw [hUl] at hwU
   have HE:Hid (val Q=val l/val m∧val U/2^s=val l%val m):=by
    have:=HD.out
    rw [HvV.out] at this
    exact Lib.hid (this.done (Nat.pow_pos (by decide)))
   have HWl:Hid (Below w.heap.size w wr):=Lib.hid (hWa.trans (HW.out.mono hbU.out.1))
   go_wp2_with fail
   go_call (refcut_any _ Q wr hwQ) as _ _ ⟨rfl,rfl⟩
   go_wp2_with fail
   go_call (refcut_any _ U wr hwU) as _ _ ⟨rfl,rfl⟩
   go_wp2_with fail
   go_call (refdown_any _ (trim U) s wr hwU.cut (by omega) (by have:=trim_len U;omega)) as _ w9 ⟨vr,rfl,hr,hW9⟩
   go_wp2
   go_ret2
   rw [val_trim,HE.out.2] at hr
   exact⟨_,_,rfl,⟨_,hwQ.cut.low hW9,trim_canon _,by rw [val_trim,HE.out.1]⟩,hr,HWl.out.trans (hW9.mono (by have:=HWl.out.size;omega))⟩
  | succ j =>
   have ej:(((j+1:Nat):Int)-1)=(j:Int):=by omega
   rw [ej]
   clear ej
   have hlenV:=HeV.out
   have hvV:=val_lt HbV.out
   rw [hlenV] at hvV
   have HG:=Lib.hid (guess_top (j:=j) HBU.out HbV.out HcV.out hlenV (by omega) HD.out)
   have HH:=Lib.hid (high_digits (j:=j) (n:=M+1) HBU.out HD.out hvV)
   have HZ:=Lib.hid (high_zero (j:=j) (n:=M+1) HBU.out HD.out hvV)
   have HB1:=Lib.hid HD.out.digit
   have HVw:=Lib.hid (HV.out.low (hbU.out.2 ▸ HW.out))
   obtain⟨bV,oV,epV,hcV⟩:=HVw.out.at (k:=M) (by omega)
   subst epV
   have hc1:=HKU.out.cell (i:=j+(M+1)) (by omega)
   have hc2:=HKU.out.cell (i:=j+M) (by omega)
   have hx:=HBU.out.getD (j+(M+1));have hy:=HBU.out.getD (j+M);have hz:=HbV.out.getD M
   rw [show j+(M+1)-1=j+M by omega,show M+1-1=M by omega] at HG
   have HGt:=Lib.hid HG.out.1
   have hz0:=HG.out.2
   clear HG hvV
   generalize U.getD (j+(M+1)) 0=x at *
   generalize U.getD (j+M) 0=y at *
   generalize V.getD M 0=z at *
   have hd1:∀ n:Nat,(wr.drewN n).cell? ⟨b1,j+(M+1),none⟩=some (.int .u32 (x:Int)):=fun _=>hc1
   have hd2:∀ n:Nat,(wr.drewN n).cell? ⟨b1,j+M,none⟩=some (.int .u32 (y:Int)):=fun _=>hc2
   have hd2' : ∀ n:Nat,(wr.drewN n).cell? ⟨b1,j+(M+1)-1,none⟩=some (.int .u32 (y:Int)):=fun _=>hc2
   have hd3:∀ n:Nat,(wr.drewN n).cell? ⟨bV,oV+M,none⟩=some (.int .u32 (z:Int)):=fun _=>hcV
   have eq:((x:Int)*4294967296+y)/(z:Int)=(((x*4294967296+y)/z:Nat):Int):=by simp
   go_wp2_with fail
   generalize (x*4294967296+y)/z=q at *
   have emin:min (q:Int) 4294967295=((min q 4294967295:Nat):Int):=by omega
   have HGm:Hid (val U/4294967296^j/val V≤min q 4294967295):=show _≤_ from Nat.le_min.2 ⟨HGt.out,by have:=HB1.out;omega⟩
   have hGm:min q 4294967295<4294967296:=by omega
   generalize min q 4294967295=gu at *
   clear HGt
   go_quiet (fail)
   go_wp2_with fail
   have HKU0:=Lib.hid (HKU.out.drewN nq)
   have HKQ0:=Lib.hid (HKQ.out.drewN nq)
   have HW0:=Lib.hid (below_drewN HW.out nq)
   generalize wr.drewN nq=wr0 at *
   clear hd1 hd2 hd2' hd3 hc1 hc2 hcV emin eq HKU HKQ HW HVw
   have hfit:=fun (g:Nat) (hg:g<4294967296) (u:World) (h1:Blk u b1 U) (h2:Words u (.slice (some ⟨bV,oV,none⟩) V.length cV) V)=>reffits_any b1 0 (l.length+2) _ U V j g u (by have:=h1.all HBU.out (cap:=l.length+2) (by omega) (by omega);exact this) h2 (by omega) hg (by omega)
   rw [hUl,hlenV,HH.out] at hfit
   have HF:=Lib.hid hfit
   clear hfit
   go_loopw [15] (fun v15 wr=>∃ g:Nat,v15=.int .u64 g∧g<4294967296∧Hid (val U/4294967296^j/val V≤g)∧Hid (Blk wr b1 U)∧Hid (Blk wr b2 Q)∧Hid (Below b1 w1 wr)) (fun v15 _=>(intOf v15).toNat)
   case atStart=>exact⟨gu,rfl,hGm,HGm,HKU0,HKQ0,HW0⟩
   case round =>
    clear HGm hGm HKU0 HKQ0 HW0
    obtain⟨g,rfl,hg,HGm,HKU,HKQ,HW⟩:=hrel
    have hVw:=HV.out.low (hbU.out.2 ▸ HW.out)
    have hf:=HF.out g hg _ HKU.out (by rw [hlenV] at hVw;exact hVw)
    clear hVw
    by_cases hle:g*val V≤val U/4294967296^j
    ·have hgt:Hid (g=val U/4294967296^j/val V):=show _=_ from Nat.le_antisymm ((Nat.le_div_iff_mul_le HD.out.pos).2 hle) HGm.out
     rw [decide_eq_true hle] at hf
     go_wp2_with fail
     go_call hf as _ w6 ⟨rfl,hW6⟩
     have HKU6:=Lib.hid (HKU.out.low hW6)
     have HKQ6:=Lib.hid (HKQ.out.low hW6)
     have HW6:=Lib.hid (HW.out.trans (hW6.mono (by have:=lt_of HKU.out;omega)))
     clear hW6 HKU HKQ HW hf
     have hcQ:=HKQ6.out.cell (i:=j) (by omega)
     have hfQ:=HKQ6.out.free j
     generalize Q.getD j 0=qd at *
     go_wp2_with fail
     have HKU7:=Lib.hid (HKU6.out.other (b' := b2) (by omega) j (.int .u32 (g:Int)))
     have HKQ7:=Lib.hid (HKQ6.out.set j g)
     have HW7:Hid (Below b1 w1 (w6.setCell ⟨b2,j,none⟩ (.int .u32 (g:Int)))):=show Below _ _ _ from HW6.out.setCell (by simp;omega) _
     clear HKU6 HKQ6 HW6 hcQ hfQ
     generalize w6.setCell ⟨b2,j,none⟩ (.int .u32 (g:Int))=w7 at *
     go_loopw [16,17,18] (fun v16 v17 v18 wr=>∃ (i cy bw:Nat) (L:List Nat),v16=.int .u64 bw∧v17=.int .u64 cy∧v18=.int .i64 i∧i≤M+2∧cy<4294967296∧bw<2∧L.length=l.length+2∧Hid (Bd L)∧Hid (∀ i,j+(M+1)+1≤i→L.getD i 0=0) ∧
      Hid (val L+4294967296^j*(g*val (V.take i))=val U+4294967296^(j+i)*(cy+bw))∧Hid (Blk wr b1 L)∧Hid (Blk wr b2 (Q.set j g))∧Hid (Below b1 w1 wr)) (fun _ _ v18 _=>M+2-(intOf v18).toNat)
     case atStart =>
      refine⟨0,0,0,U,rfl,rfl,rfl,by omega,by omega,by omega,hUl,HBU,HZ,?_,HKU7,HKQ7,HW7⟩
      show _=_;simp [val]
     case round =>
      clear HKU7 HKQ7 HW7
      obtain⟨i,cy,bw,L,rfl,rfl,rfl,hi,hcy,hbw,hLl,HBL,HZL,HS,HKL,HKQ,HW⟩:=hrel
      by_cases hin:i<M+2
      ·have hin' : (i:Int)≤(M:Int)+1:=by omega
       have hVw:=HV.out.low (hbU.out.2 ▸ HW.out)
       have ha:=at_any _ V i wr hVw (by omega)
       rw [hlenV] at ha
       have HS' := Lib.hid (fun d bw' => @subm_step L V i j g cy bw bw' d (val U) (by omega) HS)
       have hcl:=HKL.out.cell (i:=i+j) (by omega)
       have hfl:=HKL.out.free (i+j)
       have hu:=HBL.out.getD (i+j)
       have HB' := Lib.hid (fun x hx=>HBL.out.set (x:=x) hx (i+j))
       have HZ' := Lib.hid (fun d t (ht:j+(M+1)+1≤t)=>(getD_set_ne L (i+j) d t (by omega)).trans (HZL.out t ht))
       have hv:=HbV.out.getD i
       rw [Nat.add_comm j i] at HS'
       clear hVw
       generalize L.getD (i+j) 0=u at *
       generalize V.getD i 0=y at *
       have hxy:g*y≤18446744065119617025:=mul_words hg hv
       have exy:(g:Int)*(y:Int)=((g*y:Nat):Int):=by simp
       generalize g*y=p at *
       clear HS HZL
       go_wp2_with fail
       go_call ha as _ _ ⟨rfl,rfl⟩
       go_wp2_with fail
       refine⟨⟨i+1,(cy+p)/4294967296,1-(4294967296+u-(cy+p)%4294967296-bw)/4294967296,L.set (i+j) ((4294967296+u-(cy+p)%4294967296-bw)%4294967296),by go_num,by go_num,by go_num,by omega,by omega,by omega,by simp [hLl],Lib.hid (HB'.out _ (Nat.mod_lt _ (by decide))),Lib.hid (HZ'.out _),HS'.out _ _ (by omega),?_,?_,?_⟩,?_⟩
       ·have:=HKL.out.set (i+j) ((4294967296+u-(cy+p)%4294967296-bw)%4294967296)
        rw [show (((4294967296+u-(cy+p)%4294967296-bw)%4294967296:Nat):Int)=(4294967296+(u:Int)-((cy:Int)+p)%4294967296-bw)%4294967296 by omega] at this
        exact Lib.hid this
       ·exact Lib.hid (HKQ.out.other hne12 _ _)
       ·exact Lib.hid (HW.out.setCell (Nat.le_refl _) _)
       ·simp [intOf];omega
      ·have hin' : ¬ (i:Int)≤(M:Int)+1:=by omega
       have e:i=M+1+1:=by omega
       subst e
       have hvt:V.take (M+1+1)=V:=List.take_of_length_le (by omega)
       rw [hvt] at HS
       have HSS:Hid (val L+4294967296^j*(val U/4294967296^j/val V*val V)=val U):=by
        show _=_
        have hs:=HS.out
        rw [hgt.out] at hs
        exact sub_done HBL.out HZL.out HD.out hs
       have HDn:=Lib.hid (HD.out.next (u' := L) (by omega) HSS.out)
       rw [← hgt.out] at HDn
       clear HS HSS
       go_wp2_with fail
       refine⟨?_,?_⟩
       ·exact⟨j,L,Q.set j g,by go_num,by omega,hLl,by simp [hQl],HBL,Lib.hid (HBQ.out.set hg j),HDn,HKL,HKQ,HW⟩
       ·simp [intOf]
    ·rw [decide_eq_false hle] at hf
     have hg0:1≤g:=by
      rcases Nat.eq_zero_or_pos g with h0|h0
      ·subst h0;simp at hle
      ·exact h0
     have HGn:Hid (val U/4294967296^j/val V≤g-1):=show _≤_ by
      have h1:=HGm.out
      have h2:val U/4294967296^j/val V≠g:=by
       intro e;apply hle;rw [← e];exact Nat.div_mul_le_self _ _
      omega
     go_wp2_with fail
     go_call hf as _ w6 ⟨rfl,hW6⟩
     go_wp2_with fail
     refine⟨⟨_,_,_,_,_,_,_,_,_,?_,rfl⟩,?_⟩
     ·exact⟨g-1,by go_num,by omega,HGn,Lib.hid (HKU.out.low hW6),Lib.hid (HKQ.out.low hW6),Lib.hid (HW.out.trans (hW6.mono (by have:=lt_of HKU.out;omega)))⟩
     ·simp [intOf];omega
theorem cmp3_neg{a b:Nat}(h:a<b):cmp3 a b<0:=by rw [cmp3_lt h];decide
theorem canon_one{l:List Nat}(hl:l.length=1)(hb:Bd l)(hc:Canon l):l=[l.getD 0 0]∧0<l.getD 0 0∧l.getD 0 0<4294967296∧val l=l.getD 0 0:=by
 match l,hl with
 | [x],_ =>
  have h1:=hb x (by simp)
  have h2:x≠0:=fun e=>hc (by simp [e])
  simp [val];omega
theorem Mag.cutOne{w:World}{r:Nat}(hr:r<4294967296){z:Int}(hz:z=(r:Int))(b:Nat)(hb:b=w.heap.size):Mag (w.alloc (.cells #[.int .u32 z] 315)) (cutV [r] (.slice (some ⟨b,0,none⟩) 1 1)) r:=by
 subst hb
 exact⟨_,(Words.one hz hr).cut,trim_canon _,by rw [val_trim];simp [val]⟩
theorem refdivided_any(v v': Value)(l m:List Nat)(w:World)(h:Words w v l)(h': Words w v' m)(cl:Canon l)(cm:Canon m)(hm:m≠[])(hl:l.length≤137438953472):Calls Tryz.prog 303 #[v,v'] w fun e w' => ∃ q r,e=.returned (.tuple #[q,r])∧Mag w' q (val l/val m)∧Mag w' r (val l%val m)∧Below w.heap.size w w' := by
 have Hb:=h.bd
 have Hb' := h'.bd
 have hm0:m.length≠0:=fun e=>hm (List.length_eq_zero_iff.1 e)
 by_cases hle:val m≤val l
 ·by_cases h1:m.length=1
  ·obtain⟨e1,e2,e3,e4⟩:=canon_one h1 Hb' cm
   have hmk:=canon_len_le Hb' Hb cm hle
   obtain⟨a,c,rfl,hc1,hc2⟩:=h.len
   obtain⟨a', c', rfl,hc1', hc2'⟩:=h'.len
   obtain⟨b,off,rfl,hca⟩:=h'.at (k:=0) (by omega)
   have hcmp:¬ cmp3 (val l) (val m)<0:=by unfold cmp3;rw [if_neg (by omega)];split<;>omega
   have hu:=refunder_any _ _ l m w h h' cl cm
   have hs:=fun n=>refsmall_any _ l (m.getD 0 0) (w.drewN n) (h.drewN n) e2 e3 (by omega)
   rw [h1] at hu hc1' ⊢
   rw [e4]
   rw [e4] at hu hcmp
   have hmod:=Nat.mod_lt (val l) e2
   clear h h' e1 e4 hle cl cm
   generalize m.getD 0 0=d at *
   obtain⟨r,hr⟩:∃ r,val l%d=r:=⟨_,rfl⟩
   rw [hr] at hs hmod ⊢
   have HS:=fun n=>Lib.hid (hs n)
   clear hs hr
   go_enter Tryz.func303,Tryz.ntmps303
   go_wp2_with fail
   go_call hu as _ _ ⟨rfl,n,rfl⟩
   have hcn:(w.drewN n).cell? ⟨b,off,none⟩=some (.int .u32 (d:Int)):=hca
   go_wp2_with fail
   go_call (HS n).out as _ w1 ⟨q,rfl,hq,hW⟩
   have HQ:=Lib.hid hq
   clear hq
   go_wp2_with fail
   go_call (refcut_any _ [r] _ (Words.one (by omega) (by omega))) as _ _ ⟨rfl,rfl⟩
   have HC:Hid _:=Lib.hid (Mag.cutOne (w:=w1) (r:=r) (by omega) rfl _ rfl)
   go_wp2
   go_ret2
   have hB:Below w.heap.size w w1:=(below_drewN (Below.refl _ _) n).trans hW
   exact⟨_,_,rfl,HQ.out.low (Below.alloc (Below.refl _ _) (Nat.le_refl _) _),HC.out,hB.alloc hB.size _⟩
  ·exact refdivided_long v v' l m w (M:=m.length-1) h h' cl cm (by omega) (by omega) hle hl
 ·have hlt:val l<val m:=by omega
  have hu:=refunder_any _ _ l m w h h' cl cm
  have hcmp:=cmp3_neg hlt
  obtain⟨a,c,rfl,hc1,hc2⟩:=h.len
  obtain⟨a', c', rfl,hc1', hc2'⟩:=h'.len
  have H1:=Lib.hid h
  have Hc:=Lib.hid cl
  rw [Nat.div_eq_of_lt hlt,Nat.mod_eq_of_lt hlt]
  clear h h' hlt hle cl cm
  go_enter Tryz.func303,Tryz.ntmps303
  go_wp2_with fail
  go_call hu as _ _ ⟨rfl,n,rfl⟩
  go_wp2
  go_ret2
  exact⟨_,_,rfl,⟨[],.inl ⟨rfl,rfl⟩,by simp [Canon],rfl⟩,⟨l,H1.out.drewN n,Hc.out,rfl⟩,below_drewN (Below.refl _ _) n⟩
theorem step_sub{L L0 V:List Nat}{j n q g cy bw:Nat}(hV:val V<4294967296^n)(hq:q≤4294967296)(hg:g=val L0/4294967296^j/val V)(hV0:0<val V)(h0:val L0<4294967296^(j+n+1))(hL:val L<4294967296^(j+n+1))(h1:g≤q)(h2:q≤g+1)(hs:val L+4294967296^j*(q*val V)=val L0+4294967296^(j+(n+1))*(cy+bw))(hc:cy*4294967296^(n+1)≤q*val V)(hb:bw<2):cy=0∧(bw=0→q=g∧val L+4294967296^j*(g*val V)=val L0)∧(bw≠0→q=g+1∧val L+4294967296^j*(g*val V)+4294967296^j*val V=val L0+4294967296^(j+n+1)):=by
 have hc0:cy=0:=by
  rcases Nat.eq_zero_or_pos cy with h|h
  ·exact h
  ·exfalso
   have a:4294967296^(n+1)≤q*val V:=Nat.le_trans (Nat.le_mul_of_pos_left _ h) hc
   have b:q*val V<4294967296*4294967296^n:=Nat.lt_of_le_of_lt (Nat.mul_le_mul_right _ hq) (Nat.mul_lt_mul_of_pos_left hV (by decide))
   rw [Nat.pow_succ] at a
   generalize 4294967296^n=B at *
   omega
 subst hc0
 rw [Nat.zero_add,← Nat.add_assoc] at hs
 have e1:4294967296^j*(g*val V)≤val L0:=by
  rw [hg]
  refine Nat.le_trans (Nat.mul_le_mul_left _ (Nat.div_mul_le_self _ _)) ?_
  rw [Nat.mul_comm];exact Nat.div_mul_le_self _ _
 have e2:val L0<4294967296^j*((g+1)*val V):=by
  have a:=Nat.lt_div_mul_add (a:=val L0/4294967296^j) hV0
  rw [← hg] at a
  have b:=Nat.lt_div_mul_add (a:=val L0) (b:=4294967296^j) (Nat.pow_pos (by decide))
  have c:(val L0/4294967296^j+1)*4294967296^j≤(g*val V+val V)*4294967296^j:=Nat.mul_le_mul_right _ a
  rw [Nat.add_mul,Nat.one_mul] at c
  rw [Nat.add_mul g,Nat.one_mul,Nat.mul_comm]
  omega
 refine⟨rfl,fun h=>?_,fun h=>?_⟩
 ·subst h
  rcases (by omega:q=g∨q=g+1) with h|h
  ·subst h;exact⟨rfl,by rw [hs];omega⟩
  ·subst h
   generalize 4294967296^j*((g+1)*val V)=x at *
   omega
 ·have hb1:bw=1:=by omega
  subst hb1
  rcases (by omega:q=g∨q=g+1) with h|h
  ·subst h
   generalize 4294967296^j*(q*val V)=x at *
   generalize 4294967296^(j+n+1)=y at *
   omega
  ·subst h
   refine⟨rfl,?_⟩
   rw [Nat.add_mul,Nat.one_mul,Nat.mul_add] at hs
   generalize 4294967296^j*(g*val V)=x at *
   generalize 4294967296^j*val V=z at *
   generalize 4294967296^(j+n+1)=y at *
   omega
theorem step_add{L L1 L0 V:List Nat}{j n g cy:Nat}(h0:val L0<4294967296^(j+n+1))(hL:val L<4294967296^(j+n+1))(hg:4294967296^j*(g*val V)≤val L0)(h1:val L1+4294967296^j*(g*val V)+4294967296^j*val V=val L0+4294967296^(j+n+1))(hs:val L+4294967296^(j+(n+1))*cy=val L1+4294967296^j*val V):val L+4294967296^j*(g*val V)=val L0:=by
 rw [← Nat.add_assoc] at hs
 generalize 4294967296^j*(g*val V)=x at *
 generalize 4294967296^j*val V=z at *
 generalize 4294967296^(j+n+1)=y at *
 rcases (by omega:cy=0∨cy=1∨2≤cy) with h|h|h
 ·subst h;omega
 ·subst h;omega
 ·have:y*2≤y*cy:=Nat.mul_le_mul_left _ h
  omega
theorem digit_le{L0:List Nat}{j g V:Nat}(hg:g=val L0/4294967296^j/V):4294967296^j*(g*V)≤val L0:=by
 rw [hg]
 refine Nat.le_trans (Nat.mul_le_mul_left _ (Nat.div_mul_le_self _ _)) ?_
 rw [Nat.mul_comm];exact Nat.div_mul_le_self _ _
theorem carry_step{V:List Nat}{i cy q y:Nat}(h:cy*4294967296^i≤q*val (V.take i))(hy:V.getD i 0=y):(cy+q*y)/4294967296*4294967296^(i+1)≤q*val (V.take (i+1)):=by
 rw [val_take_succ,hy,Nat.pow_succ,Nat.mul_comm _ 4294967296,← Nat.mul_assoc]
 have a:=Nat.div_mul_le_self (cy+q*y) 4294967296
 have b:(cy+q*y)/4294967296*4294967296*4294967296^i≤(cy+q*y)*4294967296^i:=Nat.mul_le_mul_right _ a
 rw [Nat.add_mul] at b
 rw [Nat.mul_add,show q*(4294967296^i*y)=q*y*4294967296^i by ac_rfl]
 omega
theorem carry_lt{V:List Nat}{i cy q:Nat}(hb:Bd V)(hq:q≤4294967296)(h:cy*4294967296^i≤q*val (V.take i)):cy<4294967296:=by
 have a:=val_lt (hb.take i)
 have b:4294967296^(V.take i).length≤4294967296^i:=Nat.pow_le_pow_right (by decide) (by rw [List.length_take];omega)
 rcases Nat.lt_or_ge cy 4294967296 with h1|h1
 ·exact h1
 ·exfalso
  have c:4294967296*4294967296^i≤cy*4294967296^i:=Nat.mul_le_mul_right _ h1
  have d:q*val (V.take i)≤4294967296*val (V.take i):=Nat.mul_le_mul_right _ hq
  omega
theorem u64_low(z:Int)(h0:0≤z)(h1:z<18446744073709551616):bits .and .u64 z 4294967295=z%4294967296:=bits_mask .u64 64 (by decide) wraps_u64 32 (by decide) z h0 h1
theorem step_digit{u t bw:Nat}(hx:u<4294967296)(ht:t<18446744073709551616)(hb:bw<2){T:Int}(hT:T=(t:Int)):∃ d bw' : Nat,bits .and .u64 (IntKind.u64.wrap (IntKind.u64.wrap ((u:Int)-bits .and .u64 T 4294967295)-(bw:Int))/4294967296) 1=(bw' : Int)∧IntKind.u64.wrap (IntKind.u64.wrap ((u:Int)-bits .and .u64 T 4294967295)-(bw:Int))%4294967296=(d:Int)∧d<4294967296∧bw'<2∧d+t%4294967296+bw=u+4294967296*bw' := by
 subst hT
 rw [u64_low _ (by omega) (by omega)]
 have e:IntKind.u64.wrap (IntKind.u64.wrap ((u:Int)-(t:Int)%4294967296)-(bw:Int))=((u:Int)-(t:Int)%4294967296-(bw:Int))%18446744073709551616:=by
  rw [IntKind.wrap_u64,IntKind.wrap_u64];omega
 rw [e,u64_and1 _ (by omega) (by omega)]
 by_cases h:u<bw+t%4294967296
 ·exact⟨4294967296+u-t%4294967296-bw,1,by omega,by omega,by omega,by omega,by omega⟩
 ·exact⟨u-t%4294967296-bw,0,by omega,by omega,by omega,by omega,by omega⟩
theorem Words.only{w w': World}{v:Value}{l:List Nat}{b:Nat}(h:Words w v l)(ho:Only b w w')(hne:∀ b' off n c,v=.slice (some ⟨b', off,none⟩) n c→b'≠b):Words w' v l:=by
 rcases h with h|⟨b', off,cap,cur,fr,h1,h2,h3⟩
 ·exact .inl h
 ·exact .inr ⟨b', off,cap,cur,fr,h1,by rw [ho.block b' (lt_of h2) (hne _ _ _ _ h1)];exact h2,h3⟩
theorem bigstep_any(b c:Nat)(v:Value)(L0 V:List Nat)(j n q g:Nat)(w:World)(hK:Blk w b L0)(hB:Bd L0)(h': Words w v V)(hne:∀ b' off n c,v=.slice (some ⟨b', off,none⟩) n c→b'≠b)(hn:V.length=n)(hj:j+n+1≤L0.length)(hc:n+1≤c)(hc2:c≤9223372036854775807)(hV0:0<val V)(hq:q≤4294967296)(hg:g=val L0/4294967296^j/val V)(h1:g≤q)(h2:q≤g+1)(hz:∀ i,j+n+1≤i→L0.getD i 0=0)(hl:L0.length≤274877906944):Calls Tryz.prog 319 #[.slice (some ⟨b,j,none⟩) (n+1) c,v,.int .u64 q] w fun e w' => e=.returned (.int .u64 g)∧(∃ L,Blk w' b L∧Bd L∧L.length=L0.length∧val L+4294967296^j*(g*val V)=val L0∧∀ i,j+n+1≤i→L.getD i 0=0)∧Only b w w' := by
 have Hb' := h'.bd
 obtain⟨a', c', rfl,hc1', hc2'⟩:=h'.len
 have hlow:=val_low hB hz
 have HSub:=fun (L:List Nat) (cy bw:Nat)=>@step_sub L L0 V j n q g cy bw (by have:=val_lt Hb';rwa [hn] at this) hq hg hV0 hlow
 have HAdd:=fun (L L1:List Nat) (cy:Nat)=>@step_add L L1 L0 V j n g cy hlow
 have HD:=Lib.hid (digit_le hg)
 have H1:=Lib.hid hK;have H2:=Lib.hid h';have H3:=Lib.hid hne;have Hz:=Lib.hid hz
 rw [hn] at hc1' ⊢
 have HSub' := fun L cy bw h=>Lib.hid (HSub L cy bw h h1 h2)
 have HAdd' := fun L L1 cy=>Lib.hid (HAdd L L1 cy)
 have HB0:=Lib.hid hB
 clear hK h' hne hz HSub HAdd hlow hg h1 h2 hB
 have HN:=Lib.hid hn
 clear hn
 go_enter Tryz.func319,Tryz.ntmps319
 go_wp2_with fail
 go_loopw [7,8,14] (fun v7 v8 v14 wr=>∃ (i cy bw:Nat) (L:List Nat),v7=.int .u64 cy∧v8=.int .u64 bw∧v14=.int .i64 i∧i≤n+1∧bw<2∧L.length=L0.length∧Hid (Bd L)∧Hid (∀ i,j+n+1≤i→L.getD i 0=0) ∧
  Hid (val L+4294967296^j*(q*val (V.take i))=val L0+4294967296^(j+i)*(cy+bw))∧Hid (cy*4294967296^i≤q*val (V.take i))∧Hid (Blk wr b L)∧Hid (Only b w wr)) (fun _ _ v14 _=>n+1-(intOf v14).toNat)
 case atStart =>
  refine⟨0,0,0,L0,rfl,rfl,rfl,by omega,by omega,rfl,HB0,Hz,?_,?_,H1,Lib.hid (Only.refl _ _)⟩
  ·show _=_;simp [val]
  ·show _≤_;simp [val]
 case round =>
  obtain⟨i,cy,bw,L,rfl,rfl,rfl,hi,hbw,hLl,HBL,HZL,HS,HC,HKL,HW⟩:=hrel
  have hcy:=carry_lt Hb' hq HC.out
  by_cases hin:i<n+1
  ·have hin' : (i:Int)<(n:Int)+1:=by omega
   have HS' := Lib.hid (fun d bw' => @subm_step L V i j q cy bw bw' d (val L0) (by omega) HS)
   have hcl:=HKL.out.cell (i:=j+i) (by omega)
   have hfl:=HKL.out.free (j+i)
   have hu:=HBL.out.getD (j+i)
   have HB' := Lib.hid (fun x hx=>HBL.out.set (x:=x) hx (j+i))
   have HZ' := Lib.hid (fun d t (ht:j+n+1≤t)=>(getD_set_ne L (j+i) d t (by omega)).trans (HZL.out t ht))
   generalize L.getD (j+i) 0=u at *
   by_cases hiv:i<n
   ·have hiv' : (i:Int)<(n:Int):=by omega
    obtain⟨bV,oV,epV,hcV⟩:=(H2.out.only HW.out H3.out).at (k:=i) (by have:=HN.out;omega)
    subst epV
    have HC' := Lib.hid (carry_step HC.out (y:=V.getD i 0) rfl)
    have hv:=Hb'.getD i
    generalize V.getD i 0=y at *
    have hxy:q*y≤4294967296*4294967295:=Nat.mul_le_mul hq (by omega)
    have exy:(q:Int)*(y:Int)=((q*y:Nat):Int):=by simp
    generalize q*y=p at *
    obtain⟨d,bw', E1,E2,hd1,hd2,hd3⟩:=step_digit hu (t:=cy+p) (bw:=bw) (T:=(cy:Int)+(p:Int)) (by omega) hbw (by omega)
    have HS2:=Lib.hid (HS'.out d bw' hd3)
    clear HS HC HZL HBL HS' hd3
    go_wp2_with fail
    refine⟨?_,?_⟩
    ·exact⟨i+1,(cy+p)/4294967296,bw', L.set (j+i) d,by go_num,rfl,by go_num,by omega,by omega,by simp [hLl],Lib.hid (HB'.out d hd1),Lib.hid (HZ'.out d),HS2,HC', Lib.hid (HKL.out.set (j+i) d),Lib.hid (HW.out.trans (setCell_only wr ⟨b,j+i,none⟩ _))⟩
    ·simp [intOf];omega
   ·have hiv' : ¬ (i:Int)<(n:Int):=by omega
    have e0:V.getD i 0=0:=by
     have:=HN.out
     simp [List.getD_eq_getElem?_getD,List.getElem?_eq_none (by omega:V.length≤i)]
    have HC' := Lib.hid (carry_step HC.out e0)
    rw [e0] at HS'
    clear e0
    rw [Nat.mul_zero,Nat.add_zero] at HS' HC'
    obtain⟨d,bw', E1,E2,hd1,hd2,hd3⟩:=step_digit hu (t:=cy) (bw:=bw) (T:=(cy:Int)) (by omega) hbw (by omega)
    have HS2:=Lib.hid (HS'.out d bw' hd3)
    clear HS HC HZL HBL HS' hd3
    go_wp2_with fail
    refine⟨?_,?_⟩
    ·exact⟨i+1,cy/4294967296,bw', L.set (j+i) d,by go_num,rfl,by go_num,by omega,by omega,by simp [hLl],Lib.hid (HB'.out d hd1),Lib.hid (HZ'.out d),HS2,HC', Lib.hid (HKL.out.set (j+i) d),Lib.hid (HW.out.trans (setCell_only wr ⟨b,j+i,none⟩ _))⟩
    ·simp [intOf];omega
  ·have hin' : ¬ (i:Int)<(n:Int)+1:=by omega
   have e:i=n+1:=by omega
   subst e
   have hvt:V.take (n+1)=V:=List.take_of_length_le (by have:=HN.out;omega)
   rw [hvt] at HS HC
   have HX:=(HSub' L cy bw (val_low HBL.out HZL.out)).out HS.out HC.out hbw
   obtain⟨rfl,hx1,hx2⟩:=HX
   by_cases hb0:bw=0
   ·obtain⟨hqg,hv⟩:=hx1 hb0
    subst hqg
    subst hb0
    have HV:=Lib.hid hv
    clear hx1 hx2 hv HS HC
    go_wp2_with fail
    go_ret
    exact⟨rfl,⟨L,HKL.out,HBL.out,hLl,HV.out,HZL.out⟩,HW.out⟩
   ·obtain⟨hqg,hv⟩:=hx2 hb0
    have hbw0:((bw:Int) == 0)=false:=by rw [beq_eq_false_iff_ne];omega
    have HV:=Lib.hid hv
    have hqg' : (q:Int)-1=g:=by omega
    have HAdd2:=fun L1 cy1=>HAdd' L1 L cy1
    clear hx1 hx2 hv HS HC HSub' HAdd' hqg
    have HKL1:=HKL;have HBL1:=HBL;have HZL1:=HZL;have HW1:=HW
    clear HKL HBL HZL HW
    go_wp2_with fail
    go_loopw [7,56] (fun v7 v56 wr=>∃ (i cy:Nat) (L1:List Nat),v7=.int .u64 cy∧v56=.int .i64 i∧i≤n+1∧cy<2∧L1.length=L0.length∧Hid (Bd L1)∧Hid (∀ i,j+n+1≤i→L1.getD i 0=0) ∧
     Hid (val L1+4294967296^(j+i)*cy=val L+4294967296^j*val (V.take i))∧Hid (Blk wr b L1)∧Hid (Only b w wr)) (fun _ v56 _=>n+1-(intOf v56).toNat)
    case atStart =>
     refine⟨0,0,L,rfl,rfl,by omega,by omega,hLl,HBL1,HZL1,?_,HKL1,HW1⟩
     show _=_;simp [val]
    case round =>
     clear HKL1 HBL1 HZL1 HW1
     obtain⟨i,cy,L1,rfl,rfl,hi,hcy,hLl1,HBL,HZL,HS,HKL,HW⟩:=hrel
     by_cases hin:i<n+1
     ·have hin' : (i:Int)<(n:Int)+1:=by omega
      have HS' := Lib.hid (fun d cy' => @addm_step L1 V i j cy d cy' (val L) (by omega) HS)
      have hcl:=HKL.out.cell (i:=j+i) (by omega)
      have hfl:=HKL.out.free (j+i)
      have hu:=HBL.out.getD (j+i)
      have HB' := Lib.hid (fun x hx=>HBL.out.set (x:=x) hx (j+i))
      have HZ' := Lib.hid (fun d t (ht:j+n+1≤t)=>(getD_set_ne L1 (j+i) d t (by omega)).trans (HZL.out t ht))
      generalize L1.getD (j+i) 0=u at *
      by_cases hiv:i<n
      ·have hiv' : (i:Int)<(n:Int):=by omega
       obtain⟨bV,oV,epV,hcV⟩:=(H2.out.only HW.out H3.out).at (k:=i) (by have:=HN.out;omega)
       subst epV
       have hv:=Hb'.getD i
       generalize V.getD i 0=y at *
       have HS2:=Lib.hid (HS'.out ((cy+u+y)%4294967296) ((cy+u+y)/4294967296) (by omega))
       clear HS HZL HBL HS'
       go_wp2_with fail
       refine⟨?_,?_⟩
       ·refine⟨i+1,(cy+u+y)/4294967296,L1.set (j+i) ((cy+u+y)%4294967296),by go_num,by go_num,by omega,by omega,by simp [hLl1],Lib.hid (HB'.out _ (by omega)),Lib.hid (HZ'.out _),HS2,?_,Lib.hid (HW.out.trans (setCell_only wr ⟨b,j+i,none⟩ _))⟩
        have:=HKL.out.set (j+i) ((cy+u+y)%4294967296)
        rw [show (((cy+u+y)%4294967296:Nat):Int)=((cy:Int)+u+y)%4294967296 by omega] at this
        exact Lib.hid this
       ·simp [intOf];omega
      ·have hiv' : ¬ (i:Int)<(n:Int):=by omega
       have e0:V.getD i 0=0:=by
        have:=HN.out
        simp [List.getD_eq_getElem?_getD,List.getElem?_eq_none (by omega:V.length≤i)]
       rw [e0] at HS'
       clear e0
       have HS2:=Lib.hid (HS'.out ((cy+u)%4294967296) ((cy+u)/4294967296) (by omega))
       clear HS HZL HBL HS'
       go_wp2_with fail
       refine⟨?_,?_⟩
       ·refine⟨i+1,(cy+u)/4294967296,L1.set (j+i) ((cy+u)%4294967296),by go_num,by go_num,by omega,by omega,by simp [hLl1],Lib.hid (HB'.out _ (by omega)),Lib.hid (HZ'.out _),HS2,?_,Lib.hid (HW.out.trans (setCell_only wr ⟨b,j+i,none⟩ _))⟩
        have:=HKL.out.set (j+i) ((cy+u)%4294967296)
        rw [show (((cy+u)%4294967296:Nat):Int)=((cy:Int)+u)%4294967296 by omega] at this
        exact Lib.hid this
       ·simp [intOf];omega
     ·have hin' : ¬ (i:Int)<(n:Int)+1:=by omega
      have e:i=n+1:=by omega
      subst e
      rw [hvt] at HS
      have HX:=Lib.hid ((HAdd2 L1 cy).out (val_low HBL.out HZL.out) HD.out HV.out HS.out)
      clear HS
      go_wp2_with fail
      go_ret
      exact⟨rfl,⟨L1,HKL.out,HBL.out,hLl1,HX.out,HZL.out⟩,HW.out⟩
theorem norm_end{t0 by_ t:Nat}(ht:t=t0*2^by_)(h1:2147483648≤t)(h2:t<4294967296):by_+blen t0=32:=by
 have h0:0<t0:=by
  rcases Nat.eq_zero_or_pos t0 with h|h
  ·subst h;simp at ht;omega
  ·exact h
 have a:=blen_lt t0
 have b:=blen_ge h0
 have c:2^(blen t0-1)*2^by_≤t:=by rw [ht];exact Nat.mul_le_mul_right _ b
 have d:t<2^blen t0*2^by_:=by rw [ht];exact Nat.mul_lt_mul_of_pos_right a (Nat.pow_pos (by decide))
 rw [← Nat.pow_add] at c d
 have e:blen t0-1+by_<32:=(Nat.pow_lt_pow_iff_right (a:=2) (by decide)).1 (Nat.lt_of_le_of_lt c h2)
 have f:31<blen t0+by_:=(Nat.pow_lt_pow_iff_right (a:=2) (by decide)).1 (Nat.lt_of_le_of_lt h1 d)
 omega
theorem norm_top{m V:List Nat}{M s:Nat}(hm:m.length=M+1)(bV:Bd V)(hl:V.length=M+1)(cm:Canon m)(hs:s+blen (m.getD M 0)=32)(hV:val V=val m*2^s):2147483648≤V.getD M 0:=by
 have h0:0<m.getD M 0:=by
  rcases Nat.eq_zero_or_pos (m.getD M 0) with h0|h0
  ·exfalso
   apply cm
   have:M<m.length:=by omega
   rw [List.getLast?_eq_getElem?,hm,Nat.add_sub_cancel,List.getElem?_eq_getElem this]
   rw [List.getD_eq_getElem?_getD,List.getElem?_eq_getElem this,Option.getD_some] at h0
   rw [h0]
  ·exact h0
 have h1:=blen_ge h0
 have e1:=val_take_succ m M
 rw [val_take_all (by omega)] at e1
 have e2:=val_take_succ V M
 rw [val_take_all (by omega)] at e2
 have b2:=val_lt (bV.take M)
 have b3:4294967296^(V.take M).length≤4294967296^M:=Nat.pow_le_pow_right (by decide) (by rw [List.length_take];omega)
 have a:4294967296^M*m.getD M 0*2^s≤val V:=by rw [hV];exact Nat.mul_le_mul_right _ (by omega)
 have c:2147483648≤m.getD M 0*2^s:=by
  have:2^(blen (m.getD M 0)-1)*2^s≤m.getD M 0*2^s:=Nat.mul_le_mul_right _ h1
  rw [← Nat.pow_add,show blen (m.getD M 0)-1+s=31 by unfold blen at *;rw [if_neg (by omega)] at *;omega] at this
  exact this
 rw [Nat.mul_assoc] at a
 have d:4294967296^M*2147483648≤4294967296^M*(m.getD M 0*2^s):=Nat.mul_le_mul_left _ c
 have e:4294967296^M*2147483648<4294967296^M*(V.getD M 0+1):=by rw [Nat.mul_add];omega
 have:=Nat.lt_of_mul_lt_mul_left e
 omega
structure Guess (x y z v1 v0 g q r:Nat):Prop where
 top:q*v1+r=x*4294967296+y
 rlt:r<4294967296
 ge:g≤q
 le:q≤4294967297
theorem Guess.start{x y z v1 v0 g:Nat}(hv:2147483648≤v1)(hv2:v1<4294967296)(hx:x≤v1)(hy:y<4294967296)(hg:g≤(x*4294967296+y)/v1):Guess x y z v1 v0 g ((x*4294967296+y)/v1) ((x*4294967296+y)%v1):=by
 refine⟨by rw [Nat.mul_comm];exact Nat.div_add_mod _ _,Nat.lt_trans (Nat.mod_lt _ (by omega)) hv2,hg,?_⟩
 have:(x*4294967296+y)/v1<4294967298:=by
  rw [Nat.div_lt_iff_lt_mul (by omega)]
  have:x*4294967296≤v1*4294967296:=Nat.mul_le_mul_right _ hx
  omega
 omega
structure Three (H V Q x y z v1 v0:Nat):Prop where
 lo:((x*4294967296+y)*4294967296+z)*Q≤H
 hi:H<((x*4294967296+y)*4294967296+z+1)*Q
 vlo:(v1*4294967296+v0)*Q≤V
 vhi:V<(v1*4294967296+v0+1)*Q
 q0:0<Q
 v1:2147483648≤v1
 v0:v0<4294967296
theorem Guess.exit{H V Q x y z v1 v0 g q r:Nat}(h:Guess x y z v1 v0 g q r)(t:Three H V Q x y z v1 v0)(hx:q*v0≤r*4294967296+z):q≤H/V+1:=by
 refine guess_le (u' := (x*4294967296+y)*4294967296+z) (v' := v1*4294967296+v0) (Q:=Q) t.lo t.vhi ?_ ?_ ?_
 ·rw [Nat.mul_add,← Nat.mul_assoc,← h.top,Nat.add_mul];omega
 ·refine Nat.le_trans (Nat.mul_le_mul_right _ ?_) t.vlo
  have:=h.le;have:=t.v1;omega
 ·refine Nat.lt_of_lt_of_le ?_ t.vlo
  exact Nat.mul_pos (by have:=t.v1;omega) t.q0
theorem Guess.down{H V Q x y z v1 v0 q r:Nat}(h:Guess x y z v1 v0 (H/V) q r)(t:Three H V Q x y z v1 v0)(hg:H/V<4294967296)(hx:4294967296≤q∨r*4294967296+z<q*v0):H/V≤q-1∧1≤q:=by
 rcases hx with hx|hx
 ·omega
 ·have h1:¬ q≤H/V:=by
   intro hle
   have a:q*(v1*4294967296+v0)≤H/V*(v1*4294967296+v0):=Nat.mul_le_mul_right _ hle
   have b:H/V*(v1*4294967296+v0)*Q≤H:=by
    rw [Nat.mul_assoc]
    exact Nat.le_trans (Nat.mul_le_mul_left _ t.vlo) (Nat.div_mul_le_self _ _)
   have c:q*(v1*4294967296+v0)*Q<((x*4294967296+y)*4294967296+z+1)*Q :=
    Nat.lt_of_le_of_lt (Nat.le_trans (Nat.mul_le_mul_right _ a) b) t.hi
   have d:=Nat.lt_of_mul_lt_mul_right c
   rw [Nat.mul_add,← Nat.mul_assoc,← h.top,Nat.add_mul] at d
   omega
  have h3:H/V<q:=Nat.lt_of_not_le h1
  generalize H/V=g at *
  omega
theorem Guess.next{x y z v1 v0 g q r:Nat}(h:Guess x y z v1 v0 g q r)(h1:g≤q-1)(h2:1≤q)(hr:r+v1<4294967296):Guess x y z v1 v0 g (q-1) (r+v1):=by
 refine⟨?_,hr,h1,by have:=h.le;omega⟩
 obtain⟨k,rfl⟩:∃ k,q=k+1:=⟨q-1,by omega⟩
 rw [← h.top,Nat.add_sub_cancel,Nat.add_mul];omega
theorem Guess.brk{H V Q x y z v1 v0 q r:Nat}(h:Guess x y z v1 v0 (H/V) q r)(t:Three H V Q x y z v1 v0)(h2:1≤q)(hr:4294967296≤r+v1):q-1≤H/V+1:=by
 have e:(q-1)*v1+(r+v1)=x*4294967296+y:=by
  obtain⟨k,rfl⟩:∃ k,q=k+1:=⟨q-1,by omega⟩
  rw [← h.top,Nat.add_sub_cancel,Nat.add_mul];omega
 refine guess_le (u' := (x*4294967296+y)*4294967296+z) (v' := v1*4294967296+v0) (Q:=Q) t.lo t.vhi ?_ ?_ ?_
 ·rw [Nat.mul_add,← Nat.mul_assoc,← e,Nat.add_mul]
  have a:(q-1)*v0≤4294967296*4294967295:=Nat.mul_le_mul (by have:=h.le;omega) (by have:=t.v0;omega)
  omega
 ·refine Nat.le_trans (Nat.mul_le_mul_right _ ?_) t.vlo
  have:=h.le;have:=t.v1;omega
 ·refine Nat.lt_of_lt_of_le ?_ t.vlo
  exact Nat.mul_pos (by have:=t.v1;omega) t.q0
theorem Three.of{A:Nat}{V U q:List Nat}{j M:Nat}(bU:Bd U)(bV:Bd V)(hV:V.length=M+1)(hM:1≤M)(h:Div A (val V) (j+1) U q)(h1:2147483648≤V.getD M 0):Three (val U/4294967296^j) (val V) (4294967296^(M-1)) (U.getD (j+(M+1)) 0) (U.getD (j+M) 0) (U.getD (j+(M-1)) 0) (V.getD M 0) (V.getD (M-1) 0)∧U.getD (j+(M+1)) 0≤V.getD M 0:=by
 have hvl:=val_lt bV
 rw [hV] at hvl
 have hH:=high_digits bU h hvl
 obtain⟨N,rfl⟩:∃ N,M=N+1:=⟨M-1,by omega⟩
 rw [Nat.add_sub_cancel]
 rw [← hH]
 have hd:val U/4294967296^j/val V<4294967296:=h.digit
 have hVp:=h.pos
 have e1:val ((U.drop j).take (N+1+1+1))=val ((U.drop j).take N)+4294967296^N*((U.getD (j+(N+1+1)) 0*4294967296+U.getD (j+(N+1)) 0)*4294967296+U.getD (j+N) 0):=by
  rw [val_take_succ,val_take_succ,val_take_succ,getD_drop,getD_drop,getD_drop,Nat.pow_succ,Nat.pow_succ]
  rw [Nat.pow_succ]
  generalize 4294967296^N=B
  simp only [Nat.mul_add,Nat.add_mul]
  rw [show ∀ x:Nat,B*(x*4294967296*4294967296)=B*4294967296*4294967296*x from fun x=>by ac_rfl,show ∀ x:Nat,B*(x*4294967296)=B*4294967296*x from fun x=>by ac_rfl]
  have e3:j+(N+1+1)=j+(N+2):=by omega
  rw [e3];omega
 have e2:val V=val (V.take N)+4294967296^N*(V.getD (N+1) 0*4294967296+V.getD N 0):=by
  rw [← val_take_all (l:=V) (i:=N+1+1) (by omega),val_take_succ,val_take_succ,Nat.pow_succ]
  generalize 4294967296^N=B
  have a:∀ x:Nat,B*(x*4294967296)=B*4294967296*x:=fun x=>by ac_rfl
  rw [Nat.mul_add,a];omega
 have l1:=val_lt ((bU.drop j).take N)
 have l2:4294967296^((U.drop j).take N).length≤4294967296^N:=Nat.pow_le_pow_right (by decide) (by rw [List.length_take];omega)
 have l3:=val_lt (bV.take N)
 have l4:4294967296^(V.take N).length≤4294967296^N:=Nat.pow_le_pow_right (by decide) (by rw [List.length_take];omega)
 have hp:0<4294967296^N:=Nat.pow_pos (by decide)
 have hb0:=bV.getD N
 have hb1:=bU.getD (j+(N+1))
 have hb2:=bU.getD (j+N)
 rw [← hH,Nat.div_lt_iff_lt_mul hVp] at hd
 rw [e1,e2] at hd ⊢
 clear e1 e2 hH hvl h
 generalize U.getD (j+(N+1+1)) 0=x at *
 generalize U.getD (j+(N+1)) 0=y at *
 generalize U.getD (j+N) 0=z at *
 generalize V.getD (N+1) 0=v1 at *
 generalize V.getD N 0=v0 at *
 generalize 4294967296^N=B at *
 generalize val ((U.drop j).take N)=lo1 at *
 generalize val (V.take N)=lo2 at *
 refine⟨⟨?_,?_,?_,?_,hp,h1,hb0⟩,?_⟩
 ·rw [Nat.mul_comm];omega
 ·rw [Nat.add_mul _ 1,Nat.one_mul,Nat.mul_comm _ B];omega
 ·rw [Nat.mul_comm];omega
 ·rw [Nat.add_mul _ 1,Nat.one_mul,Nat.mul_comm _ B];omega
 ·rcases Nat.lt_or_ge v1 x with hlt|hge
  ·exfalso
   have c:B*(4294967296*(v1*4294967296+v0+1))≤B*((x*4294967296+y)*4294967296+z):=Nat.mul_le_mul_left _ (by omega)
   have d:4294967296*(lo2+B*(v1*4294967296+v0))<B*(4294967296*(v1*4294967296+v0+1)):=by
    rw [show B*(4294967296*(v1*4294967296+v0+1))=4294967296*(B*(v1*4294967296+v0+1)) by ac_rfl,Nat.mul_add B _ 1];omega
   omega
  ·exact hge
theorem bigcut_q(v:Value)(l:List Nat)(w:World)(h:Words w v l):Calls Tryz.prog 310 #[v] w fun e w' => e=.returned (cutV l v)∧w'=w :=
 (bigcut_any v l w h).mono fun _ _ ⟨h1,h2⟩=>⟨h1,h2.symm⟩
theorem bor_lo{r x:Nat}(hr:r<4294967296)(hx:x<4294967296):bits .or .u64 ((r:Int)*4294967296) (x:Int)=(r:Int)*4294967296+(x:Int):=or_lo hr hx
theorem bigdivide_long(v v': Value)(l m:List Nat)(w:World){M:Nat}(h:Words w v l)(h': Words w v' m)(cl:Canon l)(cm:Canon m)(hm:m.length=M+1)(hM:1≤M)(hle:val m≤val l)(hl:l.length≤137438953472):Calls Tryz.prog 300 #[v,v'] w fun e w' => ∃ q r,e=.returned (.tuple #[q,r])∧Mag w' q (val l/val m)∧Mag w' r (val l%val m)∧Below w.heap.size w w' := by
 have Hb:=h.bd
 have Hb' := h'.bd
 have hml:=canon_len_le Hb' Hb cm hle
 obtain⟨a,c,rfl,hc1,hc2⟩:=h.len
 obtain⟨a', c', rfl,hc1', hc2'⟩:=h'.len
 obtain⟨bm,om,epm,hcm⟩:=h'.at (k:=M) (by omega)
 subst epm
 have hcmp:¬ cmp3 (val l) (val m)<0:=by unfold cmp3;rw [if_neg (by omega)];split<;>omega
 have hm1:(((M:Int)+1) == 1)=false:=by rw [beq_eq_false_iff_ne];omega
 have hu:=bigunder_any _ _ l m w h h' cl cm
 have hbM:=Hb'.getD M
 have H1:=Lib.hid h;have H2:=Lib.hid h'
 have HN:∀ s V,Hid (s+blen (m.getD M 0)=32→Bd V→Canon V→val V=val m*2^s→V.length=M+1∧2147483648≤V.getD M 0):=fun s V hs b1 b2 b3=>⟨norm_len hm Hb' cm b1 b2 hs b3,norm_top hm b1 (norm_len hm Hb' cm b1 b2 hs b3) cm hs b3⟩
 obtain⟨K,hK⟩:∃ K,K+(M+1)=l.length+1:=⟨l.length+1-(M+1),by omega⟩
 have HR:∀ s,Hid (val l*2^s<val m*2^s*4294967296^K):=fun s=>div_room (N:=0) (n:=M+1) Hb cm hm (by omega) (by omega)
 have hml' : M+1≤l.length:=by omega
 have ht0:0<m.getD M 0:=by
  rcases Nat.eq_zero_or_pos (m.getD M 0) with h0|h0
  ·exfalso
   apply cm
   have:M<m.length:=by omega
   rw [List.getLast?_eq_getElem?,hm,Nat.add_sub_cancel,List.getElem?_eq_getElem this]
   rw [List.getD_eq_getElem?_getD,List.getElem?_eq_getElem this,Option.getD_some] at h0
   rw [h0]
  ·exact h0
 rw [hm] at hc1' hu
 have hup0:=fun (s:Nat) (hs:s<32) (u:World) (hb:Below w.heap.size w u)=>bigleft_any _ _ s u ((H2.out.low hb)) hs (by omega)
 rw [hm] at hup0 ⊢
 have hup:=fun s hs u hb=>Lib.hid (hup0 s hs u hb)
 have hmk:=make_words ((l.length:Int)+1) (l.length+1) (by omega) (by omega)
 generalize m.getD M 0=t0 at *
 clear h h' cl cm hle hup0
 go_enter Tryz.func300,Tryz.ntmps300
 go_wp2_with fail
 go_call hu as _ _ ⟨rfl,n,rfl⟩
 have hcmn:(w.drewN n).cell? ⟨bm,om+M,none⟩=some (.int .u32 (t0:Int)):=hcm
 go_wp2_with fail
 go_loop [8,9] (fun v8 v9=>∃ s t:Nat,v8=.int .i64 s∧v9=.int .u32 t∧s<32∧0<t∧t<4294967296∧Hid (t=t0*2^s)) (fun _ v9=>4294967296-(intOf v9).toNat)
 case atStart=>exact⟨0,t0,rfl,rfl,by omega,by omega,by omega,show _=_ by simp⟩
 case round =>
 obtain⟨s,t,rfl,rfl,hs32,htp,htl,HT⟩:=hrel
 by_cases hsm:t<2147483648
 ·have HT' : Hid (2*t=t0*2^(s+1)):=show _=_ by
   have h:=HT.out
   rw [Nat.pow_succ,← Nat.mul_assoc,← h];omega
  have hs31:s+1<32:=by
   rcases Nat.lt_or_ge (s+1) 32 with h|h
   ·exact h
   ·exfalso
    have e:s=31:=by omega
    subst e
    have h1:t=t0*2^31:=HT.out
    have h2:2^31≤t0*2^31:=Nat.le_mul_of_pos_left _ ht0
    rw [← h1] at h2
    omega
  clear HT
  go_wp2_with fail
  refine⟨?_,?_⟩
  ·exact⟨s+1,2*t,by go_num,by go_num,hs31,by omega,by omega,HT'⟩
  ·simp [intOf];omega
 ·have hs:=norm_end HT.out (by omega) htl
  clear HT
  have hWn:=below_drewN (Below.refl w.heap.size w) n
  go_wp2_with fail
  go_call (hup s hs32 (w.drewN n) hWn).out as _ w1 ⟨vV,rfl,⟨V,hV1,hV2,hV3⟩,hW1⟩
  have hWa:Below w.heap.size w w1:=hWn.trans hW1
  obtain⟨hVl,hV31⟩:=(HN s V).out hs hV1.bd hV2 hV3
  obtain⟨pV,cV,rfl,hcV1,hcV2⟩:=hV1.len
  have HbV:=Lib.hid hV1.bd
  have HcV:=Lib.hid hV2
  have HvV:=Lib.hid hV3
  have HV:=Lib.hid hV1
  rw [hVl] at hcV1
  have eV:V.length=M+1:=hVl
  have HeV:=Lib.hid eV
  clear hV1 hV2 hV3 hVl hW1 HN hup hu
  rw [eV]
  clear eV
  have hK1:=Blk.alloc w1 (List.replicate (l.length+1) 0)
  have hWb:Below w.heap.size w (w1.alloc (.cells (wcells (List.replicate (l.length+1) 0)) 315)):=hWa.alloc hWa.size _
  have hb1:w.heap.size≤w1.heap.size:=hWa.size
  have HU0:Hid (∀ L0,val L0=val l*2^s→Bd L0→Canon L0→L0.length≤l.length+1):=show _ from by
   intro L0 h1 h2 h3
   refine (canon_len h2 h3).2 ?_
   rw [h1,Nat.pow_succ]
   have h4:=val_lt Hb
   have h5:2^s≤2^32:=Nat.pow_le_pow_right (by decide) (by omega)
   have h6:0<2^s:=Nat.pow_pos (by decide)
   calc val l*2^s<4294967296^l.length*2^s:=Nat.mul_lt_mul_of_pos_right h4 h6
    _≤_:=Nat.mul_le_mul_left _ h5
  go_wp2_with fail
  go_call (bigleft_any _ _ s _ ((H1.out.low hWa).alloc _) (by omega) (by omega)) as _ w3 ⟨vL,rfl,⟨L0,hL1,hL2,hL3⟩,hW3⟩
  have hlen0:=HU0.out L0 hL3 hL1.bd hL2
  have hK3:=hK1.low hW3
  have HL:=Lib.hid hL1
  have HK3:=Lib.hid hK3
  have hU0:Hid (val (L0++(List.replicate (l.length+1) 0).drop L0.length)=val l*2^s):=show _=_ by
   rw [val_append,hL3,List.drop_replicate,val_replicate];omega
  have bU0:=Lib.hid (hL1.bd.append ((Bd.replicate (l.length+1)).drop L0.length))
  have lU0:(L0++(List.replicate (l.length+1) 0).drop L0.length).length=l.length+1:=by simp;omega
  obtain⟨U0,hU0'⟩:∃ U,L0++(List.replicate (l.length+1) 0).drop L0.length=U:=⟨_,rfl⟩
  rw [hU0'] at hU0 bU0 lU0
  have HU0:=Lib.hid hU0'
  clear hU0'
  have hW13:Below w1.heap.size w1 w3:=((Below.alloc (Below.refl _ _) (Nat.le_refl _) _)).trans (hW3.mono (by simp))
  have hb13:=lt_of hK3
  clear hL1 hL2 hL3 hK1 hK3 hW3 hWb
  go_wp2_with (with_reducible refine wpList_copyw (w:=w3) ?_ (.tmp 59) (.tmp 62) ?_ w1.heap.size (List.replicate (l.length+1) 0) L0 (l.length+1) vL HK3.out HL.out ?_ ?_ ?_ ?_ HU0.out ?_)
  ·rfl
  ·rfl
  ·simp
  ·simp;omega
  ·rfl
  ·rfl
  intro w4 hK4 hO4
  have hW4:Below w1.heap.size w1 w4:=hW13.trans (only_below hO4 (Nat.le_refl _) (by omega))
  have hb14:w1.heap.size<w4.heap.size:=lt_of hK4
  have HK4:=Lib.hid hK4
  clear hK4 hO4 hW13 hb13 HL HK3 hlen0
  have hmk2:=make_words (((l.length:Int)+1)-((M:Int)+1)) K (by omega) (by omega)
  go_wp2_with fail
  have hK5:Blk (w4.alloc (.cells (wcells (List.replicate K 0)) 315)) w4.heap.size (List.replicate K 0):=Blk.alloc _ _
  have HK4' := Lib.hid (HK4.out.low (Below.alloc (Below.refl _ _) (Nat.le_refl _) (.cells (wcells (List.replicate K 0)) 315)))
  have HW5:Below w1.heap.size w1 (w4.alloc (.cells (wcells (List.replicate K 0)) 315)):=hW4.alloc (by omega) _
  have HK5:=Lib.hid hK5
  clear hK5 HK4
  have HD:Hid (Div (val l*2^s) (val V) K U0 (List.replicate K 0)):=by
   have:=Div.start (q:=List.replicate K 0) (u:=U0) (V:=val V) (N:=0) (n:=0) hU0.out (val_replicate _) (by rw [List.length_replicate,HvV.out];exact (HR s).out)
   rwa [List.length_replicate] at this
  clear HR hU0
  obtain⟨b1,hb1'⟩:∃ b,w1.heap.size=b:=⟨_,rfl⟩
  obtain⟨b2,hb2'⟩:∃ b,w4.heap.size=b:=⟨_,rfl⟩
  rw [hb1'] at HK4' HW5 hW4 hb14 hb1 ⊢
  rw [hb2'] at HK5 hb14 ⊢
  generalize w4.alloc (.cells (wcells (List.replicate K 0)) 315)=w5 at *
  have hbU:=Lib.hid (And.intro hb1 hb1')
  have hne12:b1≠b2:=by omega
  have hKz:(l.length:Int)+1-(M+1)-1=(K:Int)-1:=by omega
  try rw [hKz]
  go_loopw [13] (fun v13 wr=>∃ (k:Nat) (U Q:List Nat),v13=.int .i64 ((k:Int)-1)∧k≤K∧U.length=l.length+1∧Q.length=K∧Hid (Bd U)∧Hid (Bd Q)∧Hid (Div (val l*2^s) (val V) k U Q)∧Hid (Blk wr b1 U)∧Hid (Blk wr b2 Q)∧Hid (Below b1 w1 wr)) (fun v13 _=>(intOf v13+1).toNat)
  case atStart=>exact⟨K,U0,List.replicate K 0,rfl,Nat.le_refl _,lU0,by simp,bU0,Bd.replicate _,HD,HK4', HK5,HW5⟩
  case round =>
  obtain⟨k,U,Q,rfl,hk,hUl,hQl,HBU,HBQ,HD,HKU,HKQ,HW⟩:=hrel
  cases k with
  | zero =>
   have hwQ:=HKQ.out.all HBQ.out (cap:=K) (by omega) (by omega)
   have hwU:=HKU.out.all HBU.out (cap:=l.length+1) (by omega) (by omega)
   rw [hQl] at hwQ
   rw [hUl] at hwU
   have HE:Hid (val Q=val l/val m∧val U/2^s=val l%val m):=by
    have:=HD.out
    rw [HvV.out] at this
    exact Lib.hid (this.done (Nat.pow_pos (by decide)))
   have HWl:Hid (Below w.heap.size w wr):=Lib.hid (hWa.trans (HW.out.mono hbU.out.1))
   go_wp2_with fail
   go_still_tail 7,(by kernel_rfl)
   have hMl:M≤l.length:=by omega
   have hM0:(0:Int)≤(M:Int)+1:=by omega
   have hwQ1:Words wr.drew (.slice (some ⟨b2,0,none⟩) K K) Q:=hwQ
   have hwU1:Words wr.drew (.slice (some ⟨b1,0,none⟩) (M+1) (l.length+1)) (U.take (M+1)):=HKU.out.words HBU.out (k:=M+1) (cap:=l.length+1) (by omega) (by omega) (by omega)
   still_call (bigcut_q _ Q _ hwQ1)
   repeat still_step
   still_call (bigcut_q _ _ _ hwU1)
   repeat still_step
   refine wpStill_nil ?_
   have HUV:Hid (val (U.take (M+1))/2^s=val l%val m):=show _=_ by
    rw [val_take_low HBU.out,HE.out.2]
    have h1:=HD.out.lt
    have h2:=val_lt HbV.out
    rw [HeV.out] at h2
    rw [Nat.pow_zero,Nat.mul_one] at h1
    exact Nat.lt_trans h1 h2
   go_wp2_with fail
   go_call (bigright_any _ (trim (U.take (M+1))) s _ hwU1.cut (by omega) (by have:=trim_len (U.take (M+1));have:(U.take (M+1)).length≤M+1:=List.length_take_le _ _;omega)) as _ w9 ⟨vr,rfl,hr,hW9⟩
   go_wp2
   go_ret2
   rw [val_trim,HUV.out] at hr
   exact⟨_,_,rfl,⟨_,hwQ1.cut.low hW9,trim_canon _,by rw [val_trim,HE.out.1]⟩,hr,(HWl.out.trans (Below.drew (Below.refl _ _))).trans (hW9.mono (by have:=HWl.out.size;simp;omega))⟩
  | succ j =>
   have ej:(((j+1:Nat):Int)-1)=(j:Int):=by omega
   rw [ej]
   clear ej
   have hlenV:=HeV.out
   have hvV:=val_lt HbV.out
   rw [hlenV] at hvV
   obtain⟨h3,hxv⟩:=Three.of HBU.out HbV.out hlenV hM HD.out hV31
   have HG:=Lib.hid (guess_top (j:=j) HBU.out HbV.out HcV.out hlenV (by omega) HD.out)
   have HZ:=Lib.hid (high_zero (j:=j) (n:=M+1) HBU.out HD.out hvV)
   have HB1:=Lib.hid HD.out.digit
   have HVw:=Lib.hid (HV.out.low (hbU.out.2 ▸ HW.out))
   obtain⟨bV,oV,epV,hcV⟩:=HVw.out.at (k:=M) (by omega)
   subst epV
   obtain⟨_,_,epV,hcV0⟩:=HVw.out.at (k:=M-1) (by omega)
   cases epV
   have hbV1:bV≠b1:=by
    rcases HV.out.row with⟨e,_⟩|⟨b', off,cap,e,hr⟩
    ·cases e
    ·cases e
     obtain⟨cur,fr,hb⟩:=hr.blk
     have:=lt_of hb;have:=hbU.out.2;omega
   have hc1:=HKU.out.cell (i:=j+(M+1)) (by omega)
   have hc2:=HKU.out.cell (i:=j+M) (by omega)
   have hc3:=HKU.out.cell (i:=j+(M-1)) (by omega)
   have hx:=HBU.out.getD (j+(M+1));have hy:=HBU.out.getD (j+M);have hz:=HBU.out.getD (j+(M-1));have hv1:=HbV.out.getD M;have hv0:=HbV.out.getD (M-1)
   rw [show j+(M+1)-1=j+M by omega,show M+1-1=M by omega] at HG
   have HGt:=Lib.hid HG.out.1
   have hz0:=HG.out.2
   have H3:=Lib.hid h3
   clear HG hvV h3
   generalize U.getD (j+(M+1)) 0=x at *
   generalize U.getD (j+M) 0=y at *
   obtain⟨z,hz0'⟩:∃ z,U.getD (j+(M-1)) 0=z:=⟨_,rfl⟩
   obtain⟨v1,hv1'⟩:∃ z,V.getD M 0=z:=⟨_,rfl⟩
   obtain⟨v0,hv0'⟩:∃ z,V.getD (M-1) 0=z:=⟨_,rfl⟩
   rw [hz0'] at hz H3 hc3
   rw [hv1'] at hv1 hcV hxv hz0 HGt H3
   have hV31' : 2147483648≤v1:=by rw [← hv1'];exact hV31
   rw [hv0'] at hv0 hcV0 H3
   have hZ0:=Lib.hid hz0'
   have hV0:=Lib.hid (And.intro hv1' hv0')
   clear hz0' hv1' hv0'
   have HG0:=Lib.hid (Guess.start (z:=z) (v0:=v0) hV31' hv1 hxv hy HGt.out)
   have hd1:∀ n:Nat,(wr.drewN n).cell? ⟨b1,j+(M+1),none⟩=some (.int .u32 (x:Int)):=fun _=>hc1
   have hd2:∀ n:Nat,(wr.drewN n).cell? ⟨b1,j+M,none⟩=some (.int .u32 (y:Int)):=fun _=>hc2
   have hd2' : ∀ n:Nat,(wr.drewN n).cell? ⟨b1,j+(M+1)-1,none⟩=some (.int .u32 (y:Int)):=fun _=>hc2
   have hd4:∀ n:Nat,(wr.drewN n).cell? ⟨bV,oV+M,none⟩=some (.int .u32 (v1:Int)):=fun _=>hcV
   have hor:=bor_lo hx hy
   clear hc1 hc2
   go_wp2_with fail
   go_quiet (fail)
   have HKU0:=Lib.hid (HKU.out.drewN nq)
   have HKQ0:=Lib.hid (HKQ.out.drewN nq)
   have HW0:=Lib.hid (below_drewN HW.out nq)
   have hcVn:(wr.drewN nq).cell? ⟨bV,oV+M,none⟩=some (.int .u32 (v1:Int)):=hd4 nq
   have hcV0n:(wr.drewN nq).cell? ⟨bV,oV+(M-1),none⟩=some (.int .u32 (v0:Int)):=hcV0
   generalize wr.drewN nq=wr0 at *
   clear hd1 hd2 hd2' hd4 HKU HKQ HW HVw hcV hcV0
   have hd4:∀ n:Nat,(wr0.drewN n).cell? ⟨bV,oV+M,none⟩=some (.int .u32 (v1:Int)):=fun _=>hcVn
   have eq1:((x:Int)*4294967296+y)/(v1:Int)=(((x*4294967296+y)/v1:Nat):Int):=by simp
   have eq2:((x:Int)*4294967296+y)%(v1:Int)=(((x*4294967296+y)%v1:Nat):Int):=by simp
   have hv10:0<v1:=by omega
   go_wp2_with fail
   go_quiet (fail)
   go_wp2_with fail
   have HKU1:=Lib.hid (HKU0.out.drewN nq)
   have HKQ1:=Lib.hid (HKQ0.out.drewN nq)
   have HW1:=Lib.hid (below_drewN HW0.out nq)
   generalize wr0.drewN nq=wr1 at *
   clear hd4 hcVn hcV0n HKU0 HKQ0 HW0 hor eq1 eq2
   go_loopw [15,16] (fun v15 v16 wr=>∃ q r:Nat,v15=.int .u64 q∧v16=.int .u64 r∧Hid (Guess x y z v1 v0 (val U/4294967296^j/val V) q r)∧Hid (Blk wr b1 U)∧Hid (Blk wr b2 Q)∧Hid (Below b1 w1 wr)) (fun v15 _ _=>(intOf v15).toNat)
   case atStart=>exact⟨(x*4294967296+y)/v1,(x*4294967296+y)%v1,by simp,by simp,HG0,HKU1,HKQ1,HW1⟩
   case round =>
   clear HKU1 HKQ1 HW1 HG0 HGt
   obtain⟨q,r,rfl,rfl,HG,HKU,HKQ,HW⟩:=hrel
   have hVw:=HV.out.low (hbU.out.2 ▸ HW.out)
   obtain⟨_,_,epV,hcV0⟩:=hVw.at (k:=M-1) (by omega)
   cases epV
   obtain⟨_,_,epV,hcV1⟩:=hVw.at (k:=M) (by omega)
   cases epV
   have hc3:=HKU.out.cell (i:=j+(M-1)) (by omega)
   rw [hZ0.out] at hc3
   rw [hV0.out.1] at hcV1
   rw [hV0.out.2] at hcV0
   have hrl:=HG.out.rlt
   have hql:=HG.out.le
   have hor:=bor_lo hrl hz
   have hqv:q*v0≤4294967297*4294967295:=Nat.mul_le_mul hql (by omega)
   have eqv:(q:Int)*(v0:Int)=((q*v0:Nat):Int):=by simp
   clear hVw
   have hc3n:∀ n:Nat,(wr.drewN n).cell? ⟨b1,j+(M+1)-2,none⟩=some (.int .u32 (z:Int)):=fun _=>by rw [show j+(M+1)-2=j+(M-1) by omega];exact hc3
   have hcVn:∀ n:Nat,(wr.drewN n).cell? ⟨bV,oV+(M-1),none⟩=some (.int .u32 (v0:Int)):=fun _=>hcV0
   have hcV1n:∀ n:Nat,(wr.drewN n).cell? ⟨bV,oV+M,none⟩=some (.int .u32 (v1:Int)):=fun _=>hcV1
   have HDEC:=Lib.hid (fun hx=>HG.out.down H3.out HB1.out hx)
   have HEX:=Lib.hid (fun hx=>HG.out.exit H3.out hx)
   obtain⟨p,hp⟩:∃ p,q*v0=p:=⟨_,rfl⟩
   rw [hp] at HDEC HEX hqv eqv
   clear hKz hmk2 hmk hor
   have hor:=bor_lo hrl hz
   clear hp
   have h2a:(2:Int)≤(j:Int)+((M:Int)+1):=by omega
   have h2b:(0:Int)≤(j:Int)+((M:Int)+1)-2:=by omega
   have h2d:(j:Int)+((M:Int)+1)-2<(l.length:Int)+1:=by omega
   have h2c:((j:Int)+((M:Int)+1)-2).toNat=j+(M-1):=by omega
   have h2e:((M:Int)+1-2).toNat=M-1:=by omega
   have h2f:(0:Int)≤(M:Int)+1-2:=by omega
   have hc3m:∀ n:Nat,(wr.drewN n).cell? ⟨b1,j+(M-1),none⟩=some (.int .u32 (z:Int)):=fun _=>hc3
   by_cases hqB:4294967296≤q
   ·have hqB' : (4294967296:Int)≤(q:Int):=by omega
    have hqd:decide ((4294967296:Int)≤(q:Int))=true:=decide_eq_true hqB'
    go_wp2_with fail
    go_quiet (fail)
    have hcV9:(wr.drewN nq).cell? ⟨bV,oV+M,none⟩=some (.int .u32 (v1:Int)):=hcV1n nq
    have HKU9:=Lib.hid (HKU.out.drewN nq)
    have HKQ9:=Lib.hid (HKQ.out.drewN nq)
    have HW9:=Lib.hid (below_drewN HW.out nq)
    generalize wr.drewN nq=wr1 at *
    clear hqv hqd hqB' h2a h2b h2c h2d h2e h2f hc3m hc3n hcVn hcV1n hcV0 hcV1 hc3 HKU HKQ HW hor eqv
    have HKU:=HKU9
    have HKQ:=HKQ9
    have HW:=HW9
    clear HKU9 HKQ9 HW9
    have hdec:=HDEC.out (.inl hqB)
    obtain⟨hdec1,hdec2⟩:=hdec
    by_cases hbr:4294967296≤r+v1
    ·have hbr' : (4294967296:Int)≤(r:Int)+(v1:Int):=by omega
     have hq2:=Lib.hid (HG.out.brk H3.out hdec2 hbr)
     have hq1:=Lib.hid hdec1
     clear HDEC HEX hdec1 hbr
     have HS9:∀ u,Hid (Blk u b1 U→Words u (.slice (some ⟨bV,oV,none⟩) V.length cV) V→Calls Tryz.prog 319 #[.slice (some ⟨b1,j,none⟩) (j+(M+1)+1-j) (l.length+1-j),.slice (some ⟨bV,oV,none⟩) (M+1) cV,.int .u64 ((q:Int)-1)] u fun e w' => e=.returned (.int .u64 (val U/4294967296^j/val V:Nat))∧(∃ L,Blk w' b1 L∧Bd L∧L.length=U.length∧val L+4294967296^j*(val U/4294967296^j/val V*val V)=val U∧∀ i,j+(M+1)+1≤i→L.getD i 0=0)∧Only b1 u w'):=fun u h1 h2=>by
      rw [show j+(M+1)+1-j=M+1+1 by omega]
      rw [hlenV] at h2
      rw [show ((q:Int)-1)=((q-1:Nat):Int) by omega]
      exact bigstep_any b1 _ _ U V j (M+1) _ _ u h1 HBU.out h2 (by intro b' off n c e;cases e;exact hbV1) hlenV (by omega) (by omega) (by omega) HD.out.pos (by omega) rfl hq1.out hq2.out HZ.out (by omega)
     have hstep:=HS9 wr1 HKU.out (HV.out.low (hbU.out.2 ▸ HW.out))
     have HSTEP:=Lib.hid hstep
     have HKK:=Lib.hid hK
     have hsl:j+(M+1)≤l.length:=by omega
     have hsl1:j+(M+1)+1≤l.length+1:=by omega
     have hsl2:(j:Int)+((M:Int)+1)≤(l.length:Int):=by omega
     have hsl3:j≤j+(M+1)+1:=by omega
     clear HS9 hq1 hq2 hstep hK
     go_wp2_with fail
     go_call HSTEP.out as _ w6 ⟨rfl,⟨L,hL1,hL2,hL3,hL4,hL5⟩,hO⟩
     have HKL:=Lib.hid hL1
     have HBL:=Lib.hid hL2
     have HX:=Lib.hid hL4
     have HKQ6:Hid (Blk w6 b2 Q):=show Blk w6 b2 Q by unfold Blk;rw [hO.block b2 (lt_of HKQ.out) (Ne.symm hne12)];exact HKQ.out
     have HW6:=Lib.hid (HW.out.trans (only_below hO (Nat.le_refl _) (by have:=lt_of HKU.out;omega)))
     have hgB:=HB1.out
     have HDn:=Lib.hid (HD.out.next (u' := L) (by omega) HX.out)
     have HBQ' := Lib.hid (HBQ.out.set hgB j)
     clear hL1 hL2 hL4 hL5 hO HSTEP HKU HKQ HW HX
     have hcQ:=HKQ6.out.cell (i:=j) (by omega)
     have hfQ:=HKQ6.out.free j
     generalize Q.getD j 0=qd at *
     obtain⟨gg,hgg⟩:∃ g,val U/4294967296^j/val V=g:=⟨_,rfl⟩
     rw [hgg] at HDn HBQ' hgB ⊢
     clear hgg
     go_wp2_with fail
     refine⟨?_,?_⟩
     ·refine⟨j,L,Q.set j gg,by go_num,by omega,by omega,by simp [hQl],HBL,HBQ', HDn,?_,?_,?_⟩
      ·exact Lib.hid (HKL.out.other (Ne.symm hne12) _ _)
      ·exact Lib.hid (HKQ6.out.set j gg)
      ·exact Lib.hid (HW6.out.setCell (by simp;omega) _)
     ·simp [intOf]
    ·have hbr' : ¬ (4294967296:Int)≤(r:Int)+(v1:Int):=by omega
     have HGn:=Lib.hid (HG.out.next hdec1 hdec2 (by omega))
     clear HDEC HEX hdec1 hbr
     go_wp2_with fail
     refine⟨?_,?_⟩
     ·exact⟨q-1,r+v1,by go_num,by go_num,HGn,HKU,HKQ,HW⟩
     ·simp [intOf];omega
   ·have hqB' : ¬ (4294967296:Int)≤(q:Int):=by omega
    have hqd:decide ((4294967296:Int)≤(q:Int))=false:=decide_eq_false hqB'
    by_cases hpr:r*4294967296+z<p
    ·have hpr' : (r:Int)*4294967296+z<(p:Int):=by omega
     go_wp2_with fail
     go_quiet (fail)
     have hcV9:(wr.drewN nq).cell? ⟨bV,oV+M,none⟩=some (.int .u32 (v1:Int)):=hcV1n nq
     have HKU9:=Lib.hid (HKU.out.drewN nq)
     have HKQ9:=Lib.hid (HKQ.out.drewN nq)
     have HW9:=Lib.hid (below_drewN HW.out nq)
     generalize wr.drewN nq=wr1 at *
     clear hqv hqd hqB' h2a h2b h2c h2d h2e h2f hc3m hc3n hcVn hcV1n hcV0 hcV1 hc3 HKU HKQ HW hor eqv
     have HKU:=HKU9
     have HKQ:=HKQ9
     have HW:=HW9
     clear HKU9 HKQ9 HW9
     have hdec:=HDEC.out (.inr hpr)
     obtain⟨hdec1,hdec2⟩:=hdec
     by_cases hbr:4294967296≤r+v1
     ·have hbr' : (4294967296:Int)≤(r:Int)+(v1:Int):=by omega
      have hq2:=Lib.hid (HG.out.brk H3.out hdec2 hbr)
      have hq1:=Lib.hid hdec1
      clear HDEC HEX hdec1 hbr
      have HS9:∀ u,Hid (Blk u b1 U→Words u (.slice (some ⟨bV,oV,none⟩) V.length cV) V→Calls Tryz.prog 319 #[.slice (some ⟨b1,j,none⟩) (j+(M+1)+1-j) (l.length+1-j),.slice (some ⟨bV,oV,none⟩) (M+1) cV,.int .u64 ((q:Int)-1)] u fun e w' => e=.returned (.int .u64 (val U/4294967296^j/val V:Nat))∧(∃ L,Blk w' b1 L∧Bd L∧L.length=U.length∧val L+4294967296^j*(val U/4294967296^j/val V*val V)=val U∧∀ i,j+(M+1)+1≤i→L.getD i 0=0)∧Only b1 u w'):=fun u h1 h2=>by
       rw [show j+(M+1)+1-j=M+1+1 by omega]
       rw [hlenV] at h2
       rw [show ((q:Int)-1)=((q-1:Nat):Int) by omega]
       exact bigstep_any b1 _ _ U V j (M+1) _ _ u h1 HBU.out h2 (by intro b' off n c e;cases e;exact hbV1) hlenV (by omega) (by omega) (by omega) HD.out.pos (by omega) rfl hq1.out hq2.out HZ.out (by omega)
      have hstep:=HS9 wr1 HKU.out (HV.out.low (hbU.out.2 ▸ HW.out))
      have HSTEP:=Lib.hid hstep
      have HKK:=Lib.hid hK
      have hsl:j+(M+1)≤l.length:=by omega
      have hsl1:j+(M+1)+1≤l.length+1:=by omega
      have hsl2:(j:Int)+((M:Int)+1)≤(l.length:Int):=by omega
      have hsl3:j≤j+(M+1)+1:=by omega
      clear HS9 hq1 hq2 hstep hK
      go_wp2_with fail
      go_call HSTEP.out as _ w6 ⟨rfl,⟨L,hL1,hL2,hL3,hL4,hL5⟩,hO⟩
      have HKL:=Lib.hid hL1
      have HBL:=Lib.hid hL2
      have HX:=Lib.hid hL4
      have HKQ6:Hid (Blk w6 b2 Q):=show Blk w6 b2 Q by unfold Blk;rw [hO.block b2 (lt_of HKQ.out) (Ne.symm hne12)];exact HKQ.out
      have HW6:=Lib.hid (HW.out.trans (only_below hO (Nat.le_refl _) (by have:=lt_of HKU.out;omega)))
      have hgB:=HB1.out
      have HDn:=Lib.hid (HD.out.next (u' := L) (by omega) HX.out)
      have HBQ' := Lib.hid (HBQ.out.set hgB j)
      clear hL1 hL2 hL4 hL5 hO HSTEP HKU HKQ HW HX
      have hcQ:=HKQ6.out.cell (i:=j) (by omega)
      have hfQ:=HKQ6.out.free j
      generalize Q.getD j 0=qd at *
      obtain⟨gg,hgg⟩:∃ g,val U/4294967296^j/val V=g:=⟨_,rfl⟩
      rw [hgg] at HDn HBQ' hgB ⊢
      clear hgg
      go_wp2_with fail
      refine⟨?_,?_⟩
      ·refine⟨j,L,Q.set j gg,by go_num,by omega,by omega,by simp [hQl],HBL,HBQ', HDn,?_,?_,?_⟩
       ·exact Lib.hid (HKL.out.other (Ne.symm hne12) _ _)
       ·exact Lib.hid (HKQ6.out.set j gg)
       ·exact Lib.hid (HW6.out.setCell (by simp;omega) _)
      ·simp [intOf]
     ·have hbr' : ¬ (4294967296:Int)≤(r:Int)+(v1:Int):=by omega
      have HGn:=Lib.hid (HG.out.next hdec1 hdec2 (by omega))
      clear HDEC HEX hdec1 hbr
      go_wp2_with fail
      refine⟨?_,?_⟩
      ·exact⟨q-1,by omega,r+v1,by omega,HGn⟩
      ·simp [intOf];omega
    ·have hpr' : ¬ (r:Int)*4294967296+z<(p:Int):=by omega
     have hq2:=Lib.hid (HEX.out (by omega))
     have hq1:=Lib.hid HG.out.ge
     go_wp2_with fail
     go_quiet (fail)
     clear hqv hqd hqB' h2a h2b h2c h2d h2e h2f hc3m hc3n hcVn hcV1n hcV0 hcV1 hc3
     have HKU9:=Lib.hid (HKU.out.drewN nq)
     have HKQ9:=Lib.hid (HKQ.out.drewN nq)
     have HW9:=Lib.hid (below_drewN HW.out nq)
     generalize wr.drewN nq=wr1 at *
     clear HKU HKQ HW
     have HKU:=HKU9;have HKQ:=HKQ9;have HW:=HW9
     clear HKU9 HKQ9 HW9
     have HS9:∀ u,Hid (Blk u b1 U→Words u (.slice (some ⟨bV,oV,none⟩) V.length cV) V→Calls Tryz.prog 319 #[.slice (some ⟨b1,j,none⟩) (j+(M+1)+1-j) (l.length+1-j),.slice (some ⟨bV,oV,none⟩) (M+1) cV,.int .u64 (q:Nat)] u fun e w' => e=.returned (.int .u64 (val U/4294967296^j/val V:Nat))∧(∃ L,Blk w' b1 L∧Bd L∧L.length=U.length∧val L+4294967296^j*(val U/4294967296^j/val V*val V)=val U∧∀ i,j+(M+1)+1≤i→L.getD i 0=0)∧Only b1 u w'):=fun u h1 h2=>by
      rw [show j+(M+1)+1-j=M+1+1 by omega]
      rw [hlenV] at h2
      exact bigstep_any b1 _ _ U V j (M+1) _ _ u h1 HBU.out h2 (by intro b' off n c e;cases e;exact hbV1) hlenV (by omega) (by omega) (by omega) HD.out.pos (by omega) rfl hq1.out hq2.out HZ.out (by omega)
     have hstep:=HS9 wr1 HKU.out (HV.out.low (hbU.out.2 ▸ HW.out))
     have HSTEP:=Lib.hid hstep
     have HKK:=Lib.hid hK
     have hsl:j+(M+1)≤l.length:=by omega
     have hsl1:j+(M+1)+1≤l.length+1:=by omega
     have hsl2:(j:Int)+((M:Int)+1)≤(l.length:Int):=by omega
     have hsl3:j≤j+(M+1)+1:=by omega
     clear HS9 hq1 hq2 hstep hK
     go_wp2_with fail
     go_call HSTEP.out as _ w6 ⟨rfl,⟨L,hL1,hL2,hL3,hL4,hL5⟩,hO⟩
     have HKL:=Lib.hid hL1
     have HBL:=Lib.hid hL2
     have HX:=Lib.hid hL4
     have HKQ6:Hid (Blk w6 b2 Q):=show Blk w6 b2 Q by unfold Blk;rw [hO.block b2 (lt_of HKQ.out) (Ne.symm hne12)];exact HKQ.out
     have HW6:=Lib.hid (HW.out.trans (only_below hO (Nat.le_refl _) (by have:=lt_of HKU.out;omega)))
     have hgB:=HB1.out
     have HDn:=Lib.hid (HD.out.next (u' := L) (by omega) HX.out)
     have HBQ' := Lib.hid (HBQ.out.set hgB j)
     clear hL1 hL2 hL4 hL5 hO HSTEP HKU HKQ HW HX
     have hcQ:=HKQ6.out.cell (i:=j) (by omega)
     have hfQ:=HKQ6.out.free j
     generalize Q.getD j 0=qd at *
     obtain⟨gg,hgg⟩:∃ g,val U/4294967296^j/val V=g:=⟨_,rfl⟩
     rw [hgg] at HDn HBQ' hgB ⊢
     clear hgg
     go_wp2_with fail
     refine⟨?_,?_⟩
     ·refine⟨j,L,Q.set j gg,by go_num,by omega,by omega,by simp [hQl],HBL,HBQ', HDn,?_,?_,?_⟩
      ·exact Lib.hid (HKL.out.other (Ne.symm hne12) _ _)
      ·exact Lib.hid (HKQ6.out.set j gg)
      ·exact Lib.hid (HW6.out.setCell (by simp;omega) _)
     ·simp [intOf]
theorem bigdivide_any(v v': Value)(l m:List Nat)(w:World)(h:Words w v l)(h': Words w v' m)(cl:Canon l)(cm:Canon m)(hm:m≠[])(hl:l.length≤137438953472):Calls Tryz.prog 300 #[v,v'] w fun e w' => ∃ q r,e=.returned (.tuple #[q,r])∧Mag w' q (val l/val m)∧Mag w' r (val l%val m)∧Below w.heap.size w w' := by
 have Hb:=h.bd
 have Hb' := h'.bd
 have hm0:m.length≠0:=fun e=>hm (List.length_eq_zero_iff.1 e)
 by_cases hle:val m≤val l
 ·by_cases h1:m.length=1
  ·obtain⟨e1,e2,e3,e4⟩:=canon_one h1 Hb' cm
   have hmk:=canon_len_le Hb' Hb cm hle
   obtain⟨a,c,rfl,hc1,hc2⟩:=h.len
   obtain⟨a', c', rfl,hc1', hc2'⟩:=h'.len
   obtain⟨b,off,rfl,hca⟩:=h'.at (k:=0) (by omega)
   have hcmp:¬ cmp3 (val l) (val m)<0:=by unfold cmp3;rw [if_neg (by omega)];split<;>omega
   have hu:=bigunder_any _ _ l m w h h' cl cm
   have hs:=fun n=>bigshort_any _ l (m.getD 0 0) (w.drewN n) (h.drewN n) e2 e3 (by omega)
   rw [h1] at hu hc1' ⊢
   rw [e4]
   rw [e4] at hu hcmp
   have hmod:=Nat.mod_lt (val l) e2
   clear h h' e1 e4 hle cl cm
   generalize m.getD 0 0=d at *
   obtain⟨r,hr⟩:∃ r,val l%d=r:=⟨_,rfl⟩
   rw [hr] at hs hmod ⊢
   have HS:=fun n=>Lib.hid (hs n)
   clear hs hr
   go_enter Tryz.func300,Tryz.ntmps300
   go_wp2_with fail
   go_call hu as _ _ ⟨rfl,n,rfl⟩
   have hcn:(w.drewN n).cell? ⟨b,off,none⟩=some (.int .u32 (d:Int)):=hca
   go_wp2_with fail
   go_call (HS n).out as _ w1 ⟨q,rfl,hq,hW⟩
   have HQ:=Lib.hid hq
   clear hq
   go_wp2_with fail
   go_call (bigcut_any _ [r] _ (Words.one (by omega) (by omega))) as _ _ ⟨rfl,rfl⟩
   have HC:Hid _:=Lib.hid (Mag.cutOne (w:=w1) (r:=r) (by omega) rfl _ rfl)
   go_wp2
   go_ret2
   have hB:Below w.heap.size w w1:=(below_drewN (Below.refl _ _) n).trans hW
   exact⟨_,_,rfl,HQ.out.low (Below.alloc (Below.refl _ _) (Nat.le_refl _) _),HC.out,hB.alloc hB.size _⟩
  ·exact bigdivide_long v v' l m w (M:=m.length-1) h h' cl cm (by omega) (by omega) hle hl
 ·have hlt:val l<val m:=by omega
  have hu:=bigunder_any _ _ l m w h h' cl cm
  have hcmp:=cmp3_neg hlt
  obtain⟨a,c,rfl,hc1,hc2⟩:=h.len
  obtain⟨a', c', rfl,hc1', hc2'⟩:=h'.len
  have H1:=Lib.hid h
  have Hc:=Lib.hid cl
  rw [Nat.div_eq_of_lt hlt,Nat.mod_eq_of_lt hlt]
  clear h h' hlt hle cl cm
  go_enter Tryz.func300,Tryz.ntmps300
  go_wp2_with fail
  go_call hu as _ _ ⟨rfl,n,rfl⟩
  go_wp2
  go_ret2
  exact⟨_,_,rfl,⟨[],.inl ⟨rfl,rfl⟩,by simp [Canon],rfl⟩,⟨l,H1.out.drewN n,Hc.out,rfl⟩,below_drewN (Below.refl _ _) n⟩
end Go.Proofs.YtcdbmjnipaochaaGreat
namespace Go.Proofs.YtcdbmjnipaochaaGreat
def natL:List UInt8→Nat
 | []=>0
 | c::l=>c.toNat+256*natL l
def leB(n:Nat):List UInt8:=if h:n=0 then [] else UInt8.ofNat (n%256)::leB (n/256)
termination_by n
decreasing_by omega
def bytesOf(n:Nat):List UInt8:=(leB n).reverse
def natB(l:List UInt8):Nat:=natL l.reverse
def FormL(l:List UInt8):Prop:=l.getLast? ≠ some 0
def formB(l:List UInt8):Prop:=l.head? ≠ some 0
theorem natL_append(l m:List UInt8):natL (l++m)=natL l+256^l.length*natL m:=by
 induction l with
 | nil=>simp [natL]
 | cons x l ih=>simp only [List.cons_append,natL,ih,List.length_cons,Nat.pow_succ];rw [Nat.mul_add,Nat.mul_comm (256^l.length) 256,Nat.mul_assoc];omega
theorem natL_lt(l:List UInt8):natL l<256^l.length:=by
 induction l with
 | nil=>simp [natL]
 | cons x l ih =>
  have:=x.toNat_lt
  simp only [natL,List.length_cons,Nat.pow_succ]
  omega
theorem natL_take_succ(l:List UInt8)(i:Nat)(h:i<l.length):natL (l.take (i+1))=natL (l.take i)+256^i*(l[i]).toNat:=by
 rw [List.take_succ_eq_append_getElem h,natL_append,List.length_take,Nat.min_eq_left (by omega)]
 simp [natL]
theorem leB_zero:leB 0=[]:=by rw [leB];simp
theorem leB_pos{n:Nat}(h:n≠0):leB n=UInt8.ofNat (n%256)::leB (n/256):=by rw [leB];simp [h]
theorem natL_leB(n:Nat):natL (leB n)=n:=by
 induction n using Nat.strongRecOn with
 | _ n ih =>
  by_cases h:n=0
  ·subst h;rw [leB_zero];rfl
  ·rw [leB_pos h,natL,ih (n/256) (by omega)]
   simp
   omega
theorem formL_leB(n:Nat):FormL (leB n):=by
 induction n using Nat.strongRecOn with
 | _ n ih =>
  by_cases h:n=0
  ·subst h;rw [leB_zero];simp [FormL]
  ·rw [leB_pos h]
   have h2:=ih (n/256) (by omega)
   unfold FormL at *
   by_cases h3:n/256=0
   ·rw [h3,leB_zero]
    simp only [List.getLast?_singleton,ne_eq,Option.some.injEq]
    intro e
    have:=congrArg UInt8.toNat e
    simp at this
    omega
   ·rw [leB_pos h3] at h2 ⊢
    simpa [List.getLast?_cons_cons] using h2
theorem natL_inj{l m:List UInt8}(hl:FormL l)(hm:FormL m)(h:natL l=natL m):l=m:=by
 induction l generalizing m with
 | nil =>
  cases m with
  | nil=>rfl
  | cons y m =>
   exfalso
   have key:∀ (q:List UInt8),q≠[]→FormL q→0<natL q:=by
    intro q
    induction q with
    | nil=>intro h;exact absurd rfl h
    | cons z q ih =>
     intro _ hz
     cases q with
     | nil =>
      simp only [FormL,List.getLast?_singleton,ne_eq,Option.some.injEq] at hz
      have:z.toNat≠0:=fun e=>hz (by rw [← UInt8.toNat_inj];simpa using e)
      simp [natL];omega
     | cons y q =>
      have:=ih (by simp) (by simpa [FormL,List.getLast?_cons_cons] using hz)
      rw [natL];omega
   have:=key (y::m) (by simp) hm
   rw [← h] at this
   simp [natL] at this
 | cons x l ih =>
  cases m with
  | nil =>
   exfalso
   have key:∀ (q:List UInt8),q≠[]→FormL q→0<natL q:=by
    intro q
    induction q with
    | nil=>intro h;exact absurd rfl h
    | cons z q ih =>
     intro _ hz
     cases q with
     | nil =>
      simp only [FormL,List.getLast?_singleton,ne_eq,Option.some.injEq] at hz
      have:z.toNat≠0:=fun e=>hz (by rw [← UInt8.toNat_inj];simpa using e)
      simp [natL];omega
     | cons y q =>
      have:=ih (by simp) (by simpa [FormL,List.getLast?_cons_cons] using hz)
      rw [natL];omega
   have:=key (x::l) (by simp) hl
   rw [h] at this
   simp [natL] at this
  | cons y m =>
   simp only [natL] at h
   have hx:=x.toNat_lt;have hy:=y.toNat_lt
   have e:x=y:=by rw [← UInt8.toNat_inj];omega
   subst e
   have hl' : FormL l:=by
    cases l with
    | nil=>simp [FormL]
    | cons z l=>simpa [FormL,List.getLast?_cons_cons] using hl
   have hm' : FormL m:=by
    cases m with
    | nil=>simp [FormL]
    | cons z l=>simpa [FormL,List.getLast?_cons_cons] using hm
   rw [ih hl' hm' (by omega)]
theorem natB_bytesOf(n:Nat):natB (bytesOf n)=n:=by rw [natB,bytesOf,List.reverse_reverse,natL_leB]
theorem formB_bytesOf(n:Nat):formB (bytesOf n):=by
 have:=formL_leB n
 unfold formB bytesOf
 rw [List.head?_reverse];exact this
theorem bytesOf_natB{l:List UInt8}(h:formB l):bytesOf (natB l)=l:=by
 have h1:FormL l.reverse:=by unfold FormL;rw [List.getLast?_reverse];exact h
 have:=natL_inj (formL_leB _) h1 (natL_leB (natL l.reverse))
 unfold bytesOf natB
 rw [this,List.reverse_reverse]
theorem leB_len_le{n k:Nat}:(leB n).length≤k↔n<256^k:=by
 constructor
 ·intro h
  have:=natL_lt (leB n)
  rw [natL_leB] at this
  exact Nat.lt_of_lt_of_le this (Nat.pow_le_pow_right (by decide) h)
 ·intro h
  induction k generalizing n with
  | zero=>simp at h;subst h;rw [leB_zero];simp
  | succ k ih =>
   by_cases h0:n=0
   ·subst h0;rw [leB_zero];simp
   ·rw [leB_pos h0,List.length_cons]
    have:=ih (n:=n/256) (by rw [Nat.div_lt_iff_lt_mul (by decide)];rwa [← Nat.pow_succ])
    omega
theorem bytesOf_len(n:Nat):(bytesOf n).length=(leB n).length:=by simp [bytesOf]
theorem leB_get{n i:Nat}(h:i<(leB n).length):((leB n)[i]).toNat=n/256^i%256:=by
 induction i generalizing n with
 | zero =>
  by_cases h0:n=0
  ·subst h0;rw [leB_zero] at h;simp at h
  ·simp only [leB_pos h0,List.getElem_cons_zero];simp
 | succ i ih =>
  by_cases h0:n=0
  ·subst h0;rw [leB_zero] at h;simp at h
  ·simp only [leB_pos h0,List.getElem_cons_succ]
   have h' : i<(leB (n/256)).length:=by rw [leB_pos h0] at h;simpa using h
   rw [ih h', Nat.div_div_eq_div_mul,Nat.pow_succ,Nat.mul_comm 256]
theorem leB_len{n k:Nat}(h:n<256^k)(h0:k=0∨n/256^(k-1)%256≠0):(leB n).length=k:=by
 have h1:=leB_len_le.2 h
 rcases h0 with h0|h0
 ·omega
 ·rcases Nat.lt_or_ge (leB n).length k with h2|h2
  ·exfalso
   apply h0
   have:n<256^(k-1):=leB_len_le.1 (by omega)
   rw [Nat.div_eq_of_lt this]
  ·omega
theorem natB_ge{l:List UInt8}(h:formB l)(hne:l≠[]):256^(l.length-1)≤natB l:=by
 have e:=bytesOf_natB h
 rcases Nat.lt_or_ge (natB l) (256^(l.length-1)) with h1|h1
 ·have:=leB_len_le.2 h1
  rw [← bytesOf_len,e] at this
  have:l.length≠0:=fun e=>hne (List.length_eq_zero_iff.1 e)
  omega
 ·exact h1
theorem pow_words(k:Nat):(4294967296:Nat)^k=256^(4*k):=by
 rw [Nat.pow_mul]
theorem digit_small{l:List Nat}(hb:Bd l){i:Nat}(h:val l<256^i):l.getD (i/4) 0<256^(i%4):=by
 have e:=val_div hb (i/4)
 rw [val_drop] at e
 have h1:val l/4294967296^(i/4)<256^(i%4):=by
  rw [Nat.div_lt_iff_lt_mul (Nat.pow_pos (by decide)),pow_words,← Nat.pow_add]
  rwa [show i%4+4*(i/4)=i by omega]
 omega
theorem val_put_byte{l:List Nat}(hb:Bd l){i c:Nat}(hi:i/4<l.length)(h:val l<256^i)(hc:c<256):l.getD (i/4) 0+c*256^(i%4)<4294967296∧val (l.set (i/4) (l.getD (i/4) 0+c*256^(i%4)))=val l+256^i*c:=by
 have h1:=digit_small hb h
 have h2:c*256^(i%4)+256^(i%4)≤4294967296:=by
  have:(c+1)*256^(i%4)≤256*256^(i%4):=Nat.mul_le_mul_right _ (by omega)
  rw [Nat.add_mul,Nat.one_mul] at this
  have h3:256*256^(i%4)≤4294967296:=by
   have:i%4<4:=Nat.mod_lt _ (by decide)
   rcases (by omega:i%4=0∨i%4=1∨i%4=2∨i%4=3) with e|e|e|e<;>rw [e]<;>decide
  omega
 refine⟨by omega,?_⟩
 have e:=val_set l (i/4) (l.getD (i/4) 0+c*256^(i%4)) hi
 have e2:256^i*c=4294967296^(i/4)*(c*256^(i%4)):=by
  rw [pow_words,Nat.mul_comm c,← Nat.mul_assoc,← Nat.pow_add,show 4*(i/4)+i%4=i by omega]
 rw [e2]
 generalize 4294967296^(i/4)=B at *
 generalize c*256^(i%4)=x at *
 rw [Nat.mul_add] at e
 omega
theorem get_byte{l:List Nat}(hb:Bd l)(i:Nat):l.getD (i/4) 0/256^(i%4)%256=val l/256^i%256:=by
 have e:=val_div hb (i/4)
 rw [val_drop] at e
 have e2:val l/256^i=(l.getD (i/4) 0+4294967296*val (l.drop (i/4+1)))/256^(i%4):=by
  rw [← e,pow_words,Nat.div_div_eq_div_mul,← Nat.pow_add,show 4*(i/4)+i%4=i by omega]
 rw [e2]
 generalize val (l.drop (i/4+1))=R
 generalize l.getD (i/4) 0=x
 have:i%4<4:=Nat.mod_lt _ (by decide)
 rcases (by omega:i%4=0∨i%4=1∨i%4=2∨i%4=3) with e|e|e|e<;>rw [e]<;>omega
theorem canon_of_ge{l:List Nat}(hb:Bd l)(h:l=[]∨4294967296^(l.length-1)≤val l):Canon l:=by
 rcases h with h|h
 ·subst h;simp [Canon]
 ·unfold Canon
  intro e
  have hne:l≠[]:=by intro e2;subst e2;simp at e
  have hl:l=l.dropLast++[l.getLast hne]:=(List.dropLast_concat_getLast hne).symm
  rw [List.getLast?_eq_some_getLast hne] at e
  have e3:l.getLast hne=0:=by simpa using e
  rw [e3] at hl
  have hb2:Bd l.dropLast:=fun x hx=>hb x ((List.dropLast_sublist l).subset hx)
  have:=val_lt hb2
  rw [List.length_dropLast] at this
  rw [hl,val_append] at h
  simp only [val,Nat.mul_zero,Nat.add_zero,List.length_append,List.length_dropLast,List.length_cons,List.length_nil] at h
  rw [show l.length-1+(0+1)-1=l.length-1 by omega] at h
  omega
theorem canon_words{l:List Nat}{s:List UInt8}(hb:Bd l)(hl:l.length=(s.length+3)/4)(hv:val l=natB s)(hf:formB s):Canon l:=by
 refine canon_of_ge hb ?_
 by_cases h:s=[]
 ·subst h;left;exact List.length_eq_zero_iff.1 (by simpa using hl)
 ·right
  rw [hv]
  have:=natB_ge hf h
  refine Nat.le_trans ?_ this
  rw [pow_words]
  have:s.length≠0:=fun e=>h (List.length_eq_zero_iff.1 e)
  exact Nat.pow_le_pow_right (by decide) (by omega)
end Go.Proofs.YtcdbmjnipaochaaGreat
namespace Go.Proofs.YtcdbmjnipaochaaGreat
open Go.RowKit Rgn
theorem rev_get(s:ByteArray){i:Nat}(h:i<s.size):(s.data.toList.reverse)[i]'(by simpa using h)=s[s.size-1-i]:=by
 rw [List.getElem_reverse]
 simp only [Array.getElem_toList,Array.length_toList]
 rfl
theorem refwords_any(s:ByteArray)(w:World)(hs:s.size≤1099511627776):Calls Tryz.prog 266 #[.string s] w fun e w' => ∃ v l,e=.returned v∧Words w' v l∧l.length=(s.size+3)/4∧val l=natB s.data.toList∧Below w.heap.size w w' := by
 obtain⟨N,hN⟩:∃ N,N=(s.size+3)/4:=⟨_,rfl⟩
 have hmk:=make_words (((s.size:Int)+3)/4) N (by omega) (by omega)
 have hR:(s.data.toList.reverse).length=s.size:=by simp
 rw [← hN]
 have HN:=Lib.hid hN
 clear hN
 go_enter Tryz.func266,Tryz.ntmps266
 go_wp2_with fail
 go_loopw [4] (fun v4 wr=>∃ (i:Nat) (L:List Nat),v4=.int .i64 i∧i≤s.size∧L.length=N∧Hid (Bd L)∧Hid (val L=natL (s.data.toList.reverse.take i))∧Hid (Blk wr w.heap.size L)∧Hid (Below w.heap.size w wr)) (fun v4 _=>s.size-(intOf v4).toNat)
 case atStart =>
  refine⟨0,List.replicate N 0,rfl,by omega,by simp,Bd.replicate _,?_,Blk.alloc _ _,?_⟩
  ·show _=_;simp [val_replicate,natL]
  ·show Below _ _ _;go_grown
 case round =>
  obtain⟨i,L,rfl,hi,hL,HB,HS,HK,HW⟩:=hrel
  by_cases hin:i<s.size
  ·have hin' : (i:Int)<(s.size:Int):=by omega
   have hN:=HN.out
   have hb:=(s[s.size-1-i]).toNat_lt
   have hlt:val L<256^i:=by
    rw [HS.out]
    have:=natL_lt (s.data.toList.reverse.take i)
    rw [List.length_take,hR,Nat.min_eq_left (by omega)] at this
    exact this
   obtain⟨hp1,hp2⟩:=val_put_byte HB.out (i:=i) (c:=(s[s.size-1-i]).toNat) (by omega) hlt (by omega)
   have HS' : Hid (val (L.set (i/4) (L.getD (i/4) 0+(s[s.size-1-i]).toNat*256^(i%4)))=natL (s.data.toList.reverse.take (i+1))):=show _=_ by
    rw [hp2,HS.out,natL_take_succ _ _ (by omega),rev_get s hin]
   obtain⟨q,hq⟩:∃ q,q=i/4:=⟨_,rfl⟩
   have hqI:(i:Int)/4=(q:Int):=by omega
   have hqN:q<N:=by omega
   rw [← hq] at hp1 HS'
   have hcl:=HK.out.cell (i:=q) (by omega)
   have hfl:=HK.out.free q
   have HB' := Lib.hid (fun x hx=>HB.out.set (x:=x) hx q)
   generalize L.getD q 0=x at *
   obtain⟨k,hk⟩:∃ k,s.size-1-i=k:=⟨_,rfl⟩
   have hks:k<s.size:=by omega
   have hkI:(s.size:Int)-1-(i:Int)=(k:Int):=by omega
   have hp1' : x+(s[k]).toNat*256^(i%4)<4294967296:=by subst hk;exact hp1
   have HS2:Hid (val (L.set q (x+(s[k]).toNat*256^(i%4)))=natL (s.data.toList.reverse.take (i+1))):=by subst hk;exact HS'
   have hb' : (s[k]).toNat<2^8:=by subst hk;exact hb
   clear hp2 hlt HS hp1 HS' hb hN hk
   have hp1:=hp1'
   have HS' := HS2
   clear hp1' HS2
   have hqw:IntKind.i64.wrap (q:Int)=(q:Int):=IntWalk.i64_in _ (by omega)
   have hbw:=IntWalk.u32_in ((s[k]).toNat:Int) (by omega)
   obtain⟨r,hr⟩:∃ r,i%4=r:=⟨_,rfl⟩
   have hr4:r<4:=by omega
   rw [hr] at hp1 HS'
   have hrI:(i:Int).tmod 4=(r:Int):=by rw [Int.tmod_eq_emod_of_nonneg (by omega)];omega
   clear hq hr
   rcases (by omega:r=0∨r=1∨r=2∨r=3) with h|h|h|h
   ·subst h
    simp only [Int.natCast_zero] at hrI
    simp only [Nat.reducePow,Nat.mul_one] at hp1 HS'
    have hw8:=IntWalk.i64_in 0 (by decide)
    have hsh:=IntWalk.u32_in ((s[k].toNat:Int)) (by omega)
    have hsm:=IntWalk.u32_in ((x:Int)+(s[k].toNat:Int)) (by omega)
    go_wp2_with fail
    go_still_tail 18,(by kernel_rfl)
    clear hsh hsm hw8 hrI hqw hbw hqI hkI
    go_wp2_with fail
    refine⟨?_,?_⟩
    ·refine⟨i+1,L.set q (x+(s[k]).toNat),by go_num,by omega,by simp [hL],Lib.hid (HB'.out _ (by omega)),HS', ?_,Lib.hid (Below.setCell (Below.drew HW.out) (Nat.le_refl _) _)⟩
     have:=Blk.set (w:=wr.drew) HK.out q (x+(s[k]).toNat)
     rw [show ((x+(s[k]).toNat:Nat):Int)=(x:Int)+(s[k].toNat:Int) by omega] at this
     exact Lib.hid this
    ·simp [intOf];omega
   ·subst h
    simp only [Int.natCast_one] at hrI
    simp only [Nat.reducePow,Nat.mul_one] at hp1 HS'
    have hw8:=IntWalk.i64_in 8 (by decide)
    have hsh:=IntWalk.u32_in ((s[k].toNat:Int)*256) (by omega)
    have hsm:=IntWalk.u32_in ((x:Int)+(s[k].toNat:Int)*256) (by omega)
    go_wp2_with fail
    go_still_tail 18,(by kernel_rfl)
    clear hsh hsm hw8 hrI hqw hbw hqI hkI
    go_wp2_with fail
    refine⟨?_,?_⟩
    ·refine⟨i+1,L.set q (x+(s[k]).toNat*256),by go_num,by omega,by simp [hL],Lib.hid (HB'.out _ (by omega)),HS', ?_,Lib.hid (Below.setCell (Below.drew HW.out) (Nat.le_refl _) _)⟩
     have:=Blk.set (w:=wr.drew) HK.out q (x+(s[k]).toNat*256)
     rw [show ((x+(s[k]).toNat*256:Nat):Int)=(x:Int)+(s[k].toNat:Int)*256 by omega] at this
     exact Lib.hid this
    ·simp [intOf];omega
   ·subst h
    simp only [Int.cast_ofNat_Int] at hrI
    simp only [Nat.reducePow,Nat.mul_one] at hp1 HS'
    have hw8:=IntWalk.i64_in 16 (by decide)
    have hsh:=IntWalk.u32_in ((s[k].toNat:Int)*65536) (by omega)
    have hsm:=IntWalk.u32_in ((x:Int)+(s[k].toNat:Int)*65536) (by omega)
    go_wp2_with fail
    go_still_tail 18,(by kernel_rfl)
    clear hsh hsm hw8 hrI hqw hbw hqI hkI
    go_wp2_with fail
    refine⟨?_,?_⟩
    ·refine⟨i+1,L.set q (x+(s[k]).toNat*65536),by go_num,by omega,by simp [hL],Lib.hid (HB'.out _ (by omega)),HS', ?_,Lib.hid (Below.setCell (Below.drew HW.out) (Nat.le_refl _) _)⟩
     have:=Blk.set (w:=wr.drew) HK.out q (x+(s[k]).toNat*65536)
     rw [show ((x+(s[k]).toNat*65536:Nat):Int)=(x:Int)+(s[k].toNat:Int)*65536 by omega] at this
     exact Lib.hid this
    ·simp [intOf];omega
   ·subst h
    simp only [Int.cast_ofNat_Int] at hrI
    simp only [Nat.reducePow,Nat.mul_one] at hp1 HS'
    have hw8:=IntWalk.i64_in 24 (by decide)
    have hsh:=IntWalk.u32_in ((s[k].toNat:Int)*16777216) (by omega)
    have hsm:=IntWalk.u32_in ((x:Int)+(s[k].toNat:Int)*16777216) (by omega)
    go_wp2_with fail
    go_still_tail 18,(by kernel_rfl)
    clear hsh hsm hw8 hrI hqw hbw hqI hkI
    go_wp2_with fail
    refine⟨?_,?_⟩
    ·refine⟨i+1,L.set q (x+(s[k]).toNat*16777216),by go_num,by omega,by simp [hL],Lib.hid (HB'.out _ (by omega)),HS', ?_,Lib.hid (Below.setCell (Below.drew HW.out) (Nat.le_refl _) _)⟩
     have:=Blk.set (w:=wr.drew) HK.out q (x+(s[k]).toNat*16777216)
     rw [show ((x+(s[k]).toNat*16777216:Nat):Int)=(x:Int)+(s[k].toNat:Int)*16777216 by omega] at this
     exact Lib.hid this
    ·simp [intOf];omega
  ·have e:i=s.size:=by omega
   have hin' : ¬ (i:Int)<(s.size:Int):=by omega
   have hw:=HK.out.all HB.out (cap:=N) (by omega) (by have:=HN.out;omega)
   rw [hL] at hw
   have HV:Hid (val L=natB s.data.toList):=show _=_ by
    rw [HS.out,e,natB,List.take_of_length_le (by rw [hR];omega)]
   clear HS
   go_wp2_with fail
   go_ret
   exact⟨_,rfl,L,hw,hL,HV.out,HW.out⟩
def strV(l:List UInt8):Value:=.string ⟨l.toArray⟩
def whoV(neg:Bool)(n:Nat):Value:=.agg #[.bool (neg&&n != 0),strV (bytesOf n)]
theorem info_u8:(Tryz.prog.info? 5).map (fun i=>(i.zero,i.size,i.bytes))=some (some (.int .u8 0),1,1):=by kernel_rfl
def bcells(l:List UInt8):Array Value:=(l.map fun c=>Value.int .u8 (c.toNat:Int)).toArray
theorem made_bcells(n:Nat):madeCells #[.int .u8 0] n=bcells (List.replicate n 0):=by
 apply Array.ext
 ·simp [size_madeCells,bcells]
 ·intro i h1 h2
  simp [madeCells,bcells,Nat.mod_one]
theorem make_bytes(z:Int)(n:Nat)(hz:z=n)(hn:n≤1099511627776)(u:World):(Instr.makeSlice 243 (.int .i64 z) (.int .i64 z)).run Tryz.prog u =
   .ok (.slice (some ⟨u.heap.size,0,none⟩) n n) (u.alloc (.cells (bcells (List.replicate n 0)) 5)):=by
 subst hz
 obtain⟨i0,hi,hz0,hz1,hz2⟩:=info_parts info_u8
 have h:=run_make (P:=Tryz.prog) u 243 5 i0 (.int .u8 0) Tryz.underlying243 hi hz0 .i64 .i64 (n:Int) (n:Int) (by omega) (Int.le_refl _) (by rw [hz2];omega) (by omega)
 rw [← made_bcells]
 simpa [hz1,Value.cells] using h
def BBlk(w:World)(b:Nat)(l:List UInt8):Prop:=w.heap[b]? = some (.cells (bcells l) 5 (0,0))
theorem BBlk.alloc(w:World)(l:List UInt8):BBlk (w.alloc (.cells (bcells l) 5)) w.heap.size l:=(MapKept.heap_alloc w _).1
theorem BBlk.cell{w b l}(h:BBlk w b l){i:Nat}(hi:i<l.length):w.cell? ⟨b,i,none⟩=some (.int .u8 ((l[i]).toNat:Int)):=by
 unfold BBlk at h
 simp [World.cell?,h,bcells,hi]
theorem BBlk.free{w b l}(h:BBlk w b l)(i:Nat):w.frozen? ⟨b,i,none⟩=false:=by
 unfold BBlk at h
 simp [World.frozen?,h]
theorem BBlk.set{w b l}(h:BBlk w b l)(i:Nat)(c:UInt8):BBlk (w.setCell ⟨b,i,none⟩ (.int .u8 (c.toNat:Int))) b (l.set i c):=by
 unfold BBlk at *
 rw [setCell_at h]
 simp [bcells,List.map_set]
theorem BBlk.low{w w': World}{b:Nat}{l:List UInt8}(h:BBlk w b l)(hb:Below w.heap.size w w'):BBlk w' b l:=by
 unfold BBlk at *;rw [hb.block b (lt_of h)];exact h
def laid(R:List UInt8)(n i:Nat):List UInt8:=List.replicate (n-i) 0++(R.take i).reverse
theorem laid_len{R:List UInt8}{i:Nat}(hi:i≤R.length):(laid R R.length i).length=R.length:=by
 simp [laid];omega
theorem laid_step{R:List UInt8}{i:Nat}(hi:i<R.length):(laid R R.length i).set (R.length-1-i) R[i]=laid R R.length (i+1):=by
 unfold laid
 rw [List.take_succ_eq_append_getElem hi,List.reverse_append]
 obtain⟨k,hk⟩:∃ k,R.length-i=k+1:=⟨R.length-i-1,by omega⟩
 rw [hk,show R.length-1-i=k by omega,show R.length-(i+1)=k by omega,List.replicate_succ', List.append_assoc,List.set_append_right _ _ (by simp)]
 simp
theorem laid_step'{R:List UInt8}{n i k:Nat}{c:UInt8}(hn:R.length=n)(hi:i<n)(hk:k=n-1-i)(hc:R[i]? = some c):(laid R n i).set k c=laid R n (i+1):=by
 subst hn;subst hk
 rw [← laid_step hi]
 rw [List.getElem?_eq_getElem hi] at hc
 cases hc;rfl
theorem BBlk.str{w:World}{b:Nat}{l:List UInt8}(h:BBlk w b l)(n cap:Nat)(hn:n=l.length):(convert 243 9 (.slice (some ⟨b,0,none⟩) n cap)).run Tryz.prog w=.ok (strV l) w:=by
 subst hn
 refine run_convert_bytes_back w _ _ 5 ⟨b,0,none⟩ cap l Tryz.underlying243 Tryz.underlying5 Tryz.underlying9 fun j hj=>?_
 have e:(⟨b,0,none⟩:Addr).add j=⟨b,j,none⟩:=by unfold Addr.add;split<;>simp_all
 rw [e];exact h.cell hj
theorem laid_all(R:List UInt8):laid R R.length R.length=R.reverse:=by simp [laid]
theorem laid_none(R:List UInt8)(n:Nat):laid R n 0=List.replicate n 0:=by simp [laid]
theorem bytes_lt{v n m:Nat}(hm:n=m+1)(h:v<256^n)(h0:v/256^m%256=0):v<256^m:=by
 subst hm
 have:v/256^m<256:=by rw [Nat.div_lt_iff_lt_mul (Nat.pow_pos (by decide)),Nat.mul_comm,← Nat.pow_succ];exact h
 rw [Nat.mod_eq_of_lt this] at h0
 rcases Nat.lt_or_ge v (256^m) with h1|h1
 ·exact h1
 ·have:=Nat.div_pos h1 (Nat.pow_pos (by decide));omega
theorem refmade_any(neg:Bool)(v:Value)(l0:List Nat)(w:World)(h0:Words w v l0)(hl:l0.length≤137438953472):Calls Tryz.prog 264 #[.bool neg,v] w fun e w' => e=.returned (whoV neg (val l0))∧Below w.heap.size w w' := by
 have Hb0:=h0.bd
 obtain⟨a,c,rfl,hc1,hc2⟩:=h0.len
 have hcut:=fun (u:World) (hb:Below w.heap.size w u)=>refcut_any _ l0 u (h0.low hb)
 have h1:=h0.cut
 have hT:=trim_len l0
 have hv:val (trim l0)=val l0:=val_trim l0
 have Hb:Bd (trim l0):=h1.bd
 have HC:=Lib.hid (trim_canon l0)
 simp only [cutV] at hcut h1
 rw [← hv]
 clear h0 hv Hb0
 generalize trim l0=l at *
 have HW0:=Lib.hid h1
 clear h1
 have hWa:∀ o,Below w.heap.size w (w.alloc o):=fun o=>Below.alloc (Below.refl _ _) (Nat.le_refl _) o
 by_cases hz:l.length=0
 ·have e:l=[]:=List.length_eq_zero_iff.1 hz
  subst e
  go_enter Tryz.func264,Tryz.ntmps264
  go_wp2_with fail
  go_call (hcut _ (hWa _)) as _ _ ⟨rfl,rfl⟩
  go_wp2_with fail
  refine bodyPost_ret (v:=whoV neg (val [])) ?_ rfl ⟨rfl,Below.alloc (Below.refl _ _) (Nat.le_refl _) _⟩
  simp [results,Tryz.results264,go_sem,whoV,val,bytesOf,leB_zero,strV]
 have hz' : ((l.length:Int) == 0)=false:=by rw [beq_eq_false_iff_ne];omega
 have hv256:val l<256^(4*l.length):=by rw [← pow_words];exact val_lt Hb
 go_enter Tryz.func264,Tryz.ntmps264
 go_wp2_with fail
 go_call (hcut _ (hWa _)) as _ _ ⟨rfl,rfl⟩
 go_wp2_with fail
 obtain⟨w1,hw1⟩:∃ w1,w1=w.alloc (.cells #[.bool false,.string ByteArray.empty] 23):=⟨_,rfl⟩
 have hw1' := hw1
 rw [show ByteArray.empty=⟨#[]⟩ from rfl] at hw1'
 rw [← hw1']
 have hB1:=hWa (.cells #[.bool false,.string ByteArray.empty] 23)
 have hR1:w1.heap[w.heap.size]? = some (.cells #[.bool false,.string ByteArray.empty] 23 (0,0)):=by rw [hw1];exact (MapKept.heap_alloc w _).1
 rw [← hw1] at hB1
 have HW1:=Lib.hid (HW0.out.low hB1)
 clear hw1 hw1' hWa hcut HW0
 go_loop [5] (fun v5=>∃ n:Nat,v5=.int .i64 n∧n≤4*l.length∧Hid (val l<256^n)) (fun v5=>(intOf v5).toNat)
 case atStart=>exact⟨4*l.length,by go_num,by omega,hv256⟩
 case round =>
  obtain⟨n,rfl,hn,HV⟩:=hrel
  cases n with
  | zero =>
   exfalso
   have h1:=canon_val_pos HC.out (fun e=>hz (by rw [e];rfl))
   have h2:val l<256^0:=HV.out
   rw [Nat.pow_zero] at h2
   omega
  | succ m =>
   obtain⟨q,hq⟩:∃ q,q=m/4:=⟨_,rfl⟩
   obtain⟨r,hr⟩:∃ r,r=m%4:=⟨_,rfl⟩
   have hqI:(m:Int)/4=(q:Int):=by omega
   have hrI:(m:Int)%4=(r:Int):=by omega
   have hgb:=get_byte Hb m
   rw [← hq,← hr] at hgb
   obtain⟨t,ht⟩:∃ t,t=8*r:=⟨_,rfl⟩
   have htI:8*(r:Int)=(t:Int):=by omega
   obtain⟨p,hp⟩:∃ p,p=256^r:=⟨_,rfl⟩
   have hpI:(2:Int)^t=(p:Int):=by
    have h2:(2:Nat)^(8*r)=256^r:=by rw [Nat.pow_mul]
    rw [ht,hp,← h2];simp
   obtain⟨b,off,rfl,hca⟩:=HW1.out.at (k:=q) (by omega)
   have hx:=Hb.getD q
   rw [← hp] at hgb
   generalize l.getD q 0=x at *
   have eq:(x:Int)/(p:Int)=((x/p:Nat):Int):=by simp
   have hxp:x/p≤x:=Nat.div_le_self _ _
   generalize x/p=y at *
   have em:(((m+1:Nat):Int))=(m:Int)+1:=by omega
   rw [em]
   clear em hp hq hr ht
   have hm8:m<1099511627776:=by omega
   by_cases hy:y%256=0
   ·have hy' : ((y:Int)%256 == 0)=true:=by rw [beq_iff_eq];omega
    have HV' := Lib.hid (bytes_lt rfl HV.out (by rw [← hgb];exact hy))
    go_wp2_with fail
    exact⟨⟨m,rfl,by omega,HV'⟩,by simp [intOf]⟩
   ·have hy' : ((y:Int)%256 == 0)=false:=by rw [beq_eq_false_iff_ne];omega
    have HL:Hid ((leB (val l)).length=m+1):=show _=_ from leB_len HV.out (.inr (by rw [Nat.add_sub_cancel,← hgb];exact hy))
    have hmk:=make_bytes ((m:Int)+1) (m+1) (by omega) (by omega)
    go_wp2_with fail
    clear hqI hrI htI hpI eq hgb hca hy hy' hxp hx HV
    have HV1:=HW1
    go_loopw [7] (fun v7 wr=>∃ i:Nat,v7=.int .i64 i∧i≤m+1∧Hid (BBlk wr w1.heap.size (laid (leB (val l)) (m+1) i))∧Hid (Below w1.heap.size w1 wr)) (fun v7 _=>m+1-(intOf v7).toNat)
    case atStart =>
     refine⟨0,rfl,by omega,?_,?_⟩
     ·rw [laid_none];exact BBlk.alloc _ _
     ·exact Lib.hid (Below.alloc (Below.refl _ _) (Nat.le_refl _) _)
    case round =>
    obtain⟨i,rfl,hi,HK,HW⟩:=hrel
    by_cases him:i<m+1
    ·have him' : (i:Int)<(m:Int)+1:=by omega
     obtain⟨k,hk⟩:∃ k,k=m-i:=⟨_,rfl⟩
     have hkI:(m:Int)-(i:Int)=(k:Int):=by omega
     obtain⟨q,hq⟩:∃ q,q=i/4:=⟨_,rfl⟩
     obtain⟨r,hr⟩:∃ r,r=i%4:=⟨_,rfl⟩
     have hqI:(i:Int)/4=(q:Int):=by omega
     have hrI:(i:Int)%4=(r:Int):=by omega
     have hgb:=get_byte Hb i
     rw [← hq,← hr] at hgb
     obtain⟨t,ht⟩:∃ t,t=8*r:=⟨_,rfl⟩
     have htI:8*(r:Int)=(t:Int):=by omega
     obtain⟨p,hp⟩:∃ p,p=256^r:=⟨_,rfl⟩
     have hpI:(2:Int)^t=(p:Int):=by
      have h2:(2:Nat)^(8*r)=256^r:=by rw [Nat.pow_mul]
      rw [ht,hp,← h2];simp
     have hlen:=HL.out
     obtain⟨_,_,epl,hca⟩:=(HV1.out.low HW.out).at (k:=q) (by omega)
     cases epl
     have hx:=Hb.getD q
     rw [← hp] at hgb
     generalize l.getD q 0=x at *
     have eq:(x:Int)/(p:Int)=((x/p:Nat):Int):=by simp
     have hxp:x/p≤x:=Nat.div_le_self _ _
     generalize x/p=y at *
     obtain⟨d,hd,hbyte⟩:∃ d,(leB (val l))[i]? = some d∧d.toNat=y%256:=⟨_,List.getElem?_eq_getElem (by omega),by rw [leB_get,hgb]⟩
     have HE:=Lib.hid (laid_step' (k:=k) hlen him (by omega) hd)
     have HX:=Lib.hid (HK.out.set k d)
     have hkl:(laid (leB (val l)) (m+1) i).length=m+1:=by
      have:=laid_len (R:=leB (val l)) (i:=i) (by omega)
      rwa [hlen] at this
     have hfr:=HK.out.free k
     have hcl:=HK.out.cell (i:=k) (by omega)
     generalize ((laid (leB (val l)) (m+1) i)[k]'(by omega)).toNat=z at *
     rw [hbyte] at HX
     clear hgb hp hq hr ht hk hlen hbyte hd
     go_wp2_with fail
     refine⟨?_,?_⟩
     ·refine⟨i+1,by go_num,by omega,?_,Lib.hid (HW.out.setCell (Nat.le_refl _) _)⟩
      rw [← HE.out]
      have:=HX.out
      rw [show ((y%256:Nat):Int)=(y:Int)%256 by omega] at this
      exact Lib.hid this
     ·simp [intOf];omega
    ·have him' : ¬ (i:Int)<(m:Int)+1:=by omega
     have e:i=m+1:=by omega
     subst e
     have hst:(convert 243 9 (.slice (some ⟨w1.heap.size,0,none⟩) (m+1) (m+1))).run Tryz.prog wr=.ok (strV (bytesOf (val l))) wr:=by
      have h1:=laid_all (leB (val l))
      rw [HL.out] at h1
      have h2:=HK.out
      rw [h1] at h2
      exact h2.str _ _ (by simp [HL.out])
     have hR:wr.heap[w.heap.size]? = some (.cells #[.bool false,.string ByteArray.empty] 23 (0,0)):=by
      rw [HW.out.block _ (by exact lt_of hR1)];exact hR1
     have HB2:Hid (Below w.heap.size w wr):=Lib.hid (hB1.trans (HW.out.mono hB1.size))
     have hne:Hid ((val l != 0)=true):=Lib.hid (by
      have:=canon_val_pos HC.out (fun e=>hz (by rw [e];rfl))
      rw [bne_iff_ne];omega)
     have hf1:wr.frozen? ⟨w.heap.size,0,none⟩=false:=frozen_of hR
     have hf2:wr.frozen? ⟨w.heap.size,1,none⟩=false:=frozen_of hR
     have hcc1:=cell_of (off:=0) hR rfl
     have hcc2:=cell_of (off:=1) hR rfl
     obtain⟨B,hB⟩:∃ B:ByteArray,B=⟨(bytesOf (val l)).toArray⟩:=⟨_,rfl⟩
     have hst' : (convert 243 9 (.slice (some ⟨w1.heap.size,0,none⟩) (m+1) (m+1))).run Tryz.prog wr=.ok (.string B) wr:=by rw [hB];exact hst
     have HBs:=Lib.hid hB
     clear hst hB
     go_wp2_with fail
     have hR2:=setCell_at (o:=0) (v:=.bool neg) hR
     have hR3:=setCell_at (o:=1) (v:=.string B) hR2
     refine ret_ok rfl (results_row rfl rfl hR3 Tryz.underlying23 rfl (by kernel_rfl)) ⟨?_,?_⟩
     ·rw [HBs.out]
      simp [whoV,strV,hne.out]
     ·exact (HB2.out.setCell (Nat.le_refl _) _).setCell (by simp) _
end Go.Proofs.YtcdbmjnipaochaaGreat
namespace Go.Proofs.YtcdbmjnipaochaaGreat.Rgn
open Go
section
variable {P:Program}
theorem ex_load_row{ρ:Operand→Value}{o:Oper}{w:World}(ty:TypeId)(x:Operand)(ho:o.op=.load ty x){g:Nat}(hx:ρ x=.pointer (some ⟨g,0,none⟩)){t:TypeId}{cs:Array Value}{fr:Nat×Nat}(hg:w.heap[g]? = some (.cells cs t fr)){d:TypeDesc}(hu:P.underlying ty=some d)(hd:(match d with|.struct _|.array _ _=>true|_=>false)=true)(hi:(P.info? ty).map (·.size)=some cs.size):(execOp ρ o).run P w=.ok (.value (.agg cs)) w:=by
 unfold execOp
 simp only [ho,hx,Instr.loadAt,Instr.sureAddr,Sem.run_bind,Sem.run_pure,Result.andThen_ok,run_loadVar_row w g t ty cs fr d hg hu hd hi]
theorem run_loadCells_part(w:World)(g off:Nat)(cs:Array Value)(t:TypeId)(fr:Nat×Nat)(hg:w.heap[g]? = some (.cells cs t fr)):∀ (n i:Nat) (acc:Array Value),off+i+n≤cs.size →
  (loadCellsFrom ⟨g,off,none⟩ i n acc).run P w=.ok (acc++cs.extract (off+i) (off+i+n)) w
 | 0,i,acc,_=>by
  simp only [loadCellsFrom,Nat.add_zero]
  rw [Array.extract_eq_empty_of_le (by omega)]
  simp
 | n+1,i,acc,h=>by
  have hadd:(⟨g,off,none⟩:Addr).add i=⟨g,off+i,none⟩:=by unfold Addr.add;split<;>simp_all
  have hlt:off+i<cs.size:=by omega
  have hc:w.cell? ⟨g,off+i,none⟩=some cs[off+i]:=by simp [World.cell?,hg,hlt]
  have ih:=run_loadCells_part w g off cs t fr hg n (i+1) (acc.push cs[off+i]) (by omega)
  have hl:(load ((⟨g,off,none⟩:Addr).add i)).run P w=.ok cs[off+i] w:=by
   rw [hadd];simp [go_sem,hc]
  simp only [loadCellsFrom,Sem.run_bind,hl,Result.andThen_ok,ih]
  congr 1
  apply Array.ext'
  simp only [Array.toList_append,Array.toList_push,Array.toList_extract,List.append_assoc,List.extract_eq_take_drop]
  have e:off+i+(n+1)-(off+i)=(off+(i+1)+n-(off+(i+1)))+1:=by omega
  rw [e,List.drop_eq_getElem_cons (i:=off+i) (by simpa using hlt),List.take_succ_cons]
  simp [Nat.add_assoc]
theorem ex_load_part{ρ:Operand→Value}{o:Oper}{w:World}(ty:TypeId)(x:Operand)(ho:o.op=.load ty x){g off:Nat}(hx:ρ x=.pointer (some ⟨g,off,none⟩)){t:TypeId}{cs vs:Array Value}{fr:Nat×Nat}(hg:w.heap[g]? = some (.cells cs t fr)){d:TypeDesc}(hu:P.underlying ty=some d)(hd:(match d with|.struct _|.array _ _=>true|_=>false)=true)(n:Nat)(hi:(P.info? ty).map (·.size)=some n)(hn:off+n≤cs.size)(hv:cs.extract off (off+n)=vs):(execOp ρ o).run P w=.ok (.value (.agg vs)) w:=by
 subst hv
 have hl:=run_loadCells_part (P:=P) w g off cs t fr hg n 0 #[] (by omega)
 cases hq:P.info? ty with
 | none=>simp [hq] at hi
 | some i =>
  have hs:i.size=n:=by simpa [hq] using hi
  unfold execOp
  have hr:(loadVar ty ⟨g,off,none⟩).run P w=.ok (.agg (cs.extract off (off+n))) w:=by
   cases d<;>first|(simp at hd;done)|(simp [loadVar,loadCells,isAgg,run_underlying hu,sizeOf,typeInfo,hq,hs,hl])
  simp only [ho,hx,Instr.loadAt,Instr.sureAddr,Sem.run_bind,Sem.run_pure,Result.andThen_ok,hr]
theorem ex_store_row{ρ:Operand→Value}{o:Oper}{w:World}(ty:TypeId)(x y:Operand)(ho:o.op=.store ty x y){g:Nat}{cells:Array Value}(hx:ρ x=.pointer (some ⟨g,0,none⟩))(hy:ρ y=.agg cells){t:TypeId}{old:Array Value}(hg:w.heap[g]? = some (.cells old t (0,0)))(hi:(P.info? ty).map (·.size)=some cells.size)(hold:old.size=cells.size)(h1:cells.all (·.oneCell')=true):(execOp ρ o).run P w=.ok .skip (w.setRow g cells):=by
 unfold execOp
 simp only [ho,hx,hy,Instr.storeAt,Instr.sureAddr,Sem.run_bind,Sem.run_pure,Result.andThen_ok,run_storeVar_row w g t ty old cells hg hi hold h1]
theorem ex_store_part{ρ:Operand→Value}{o:Oper}{w:World}(ty:TypeId)(x y:Operand)(ho:o.op=.store ty x y){g off:Nat}{cells:Array Value}(hx:ρ x=.pointer (some ⟨g,off,none⟩))(hy:ρ y=.agg cells){t:TypeId}{old:Array Value}(hg:w.heap[g]? = some (.cells old t (0,0)))(hi:(P.info? ty).map (·.size)=some cells.size)(hold:off+cells.size≤old.size)(h1:cells.all (·.oneCell')=true){vs:Array Value}(hv:(old.toList.take (off+0)++cells.toList++old.toList.drop (off+0+cells.toList.length)).toArray=vs):(execOp ρ o).run P w=.ok .skip (w.setRow g vs):=by
 subst hv
 have hs:=run_storeCells_at (P:=P) g off t cells.toList 0 old w hg (by simp;omega) (fun v hv=>(Array.all_eq_true_iff_forall_mem.1 h1) v (by simpa using hv))
 unfold execOp
 have hr:(storeVar ty ⟨g,off,none⟩ (.agg cells)).run P w=.ok () (w.setRow g (old.toList.take (off+0)++cells.toList++old.toList.drop (off+0+cells.toList.length)).toArray):=by
  cases hq:P.info? ty with
  | none=>simp [hq] at hi
  | some i =>
   have hsz:cells.size=i.size:=by simp [hq] at hi;omega
   simp only [storeVar,sizeOf,typeInfo,Value.cells,Sem.run_bind]
   simp [hq,hsz,hs]
 simp only [ho,hx,hy,Instr.storeAt,Instr.sureAddr,Sem.run_bind,Sem.run_pure,Result.andThen_ok,hr]
theorem setRow_only(w:World)(g:Nat)(c:Array Value):Only g w (w.setRow g c) :=
 ⟨rfl,rfl,rfl,by simp [World.setRow],fun k hk hne=>by simp only [World.setRow,Array.getElem?_modify];rw [if_neg (Ne.symm hne)]⟩
theorem setRow_at{w:World}{g:Nat}{c c': Array Value}{T:TypeId}{fr:Nat×Nat}(h:w.heap[g]? = some (.cells c T fr)):(w.setRow g c').heap[g]? = some (.cells c' T fr):=by
 simp [World.setRow,Array.getElem?_modify,h]
end
end Go.Proofs.YtcdbmjnipaochaaGreat.Rgn
namespace Go.Proofs.YtcdbmjnipaochaaGreat
open Go.RowKit Rgn
def bS(n:Nat):ByteArray:=⟨(bytesOf n).toArray⟩
theorem VP1.rat{q S v w}(h:(RatP q).p S v w):v.oneCell'=true:=by obtain⟨b,rfl⟩:=RatP.isPtr h;rfl
theorem VP1.int{q S v w}(h:(IntP q).p S v w):v.oneCell'=true:=by obtain⟨b,off,rfl⟩:=IntP.isPtr h;rfl
theorem VP1.into{q S v w}(h:(IntO q).p S v w):v.oneCell'=true:=by obtain⟨b,rfl⟩:=IntO.isPtr h;rfl
theorem VP1.ratn{q S v w}(h:(RatN q).p S v w):v.oneCell'=true:=by
 rcases h with⟨rfl,_⟩|h
 ·rfl
 ·exact VP1.rat h
theorem VP1.mag{q S v w}(h:(MagP q).p S v w):v.oneCell'=true:=by obtain⟨a,m,c,rfl⟩:=Mag.isSl h;rfl
theorem results_tmp'{P:Program}{fn:Func}{p:Nat}{tmps:Array Value}{w:World}{v:Value}(hf:fn.results=#[.tmp p])(h:tmps.getD p undef=v):(results fn tmps).run P w=.ok v w:=by
 subst h;simp [results,hf]
theorem results_two{P:Program}{fn:Func}{p q:Nat}{tmps:Array Value}{w:World}{v v': Value}(hf:fn.results=#[.tmp p,.tmp q])(h:tmps.getD p undef=v)(h': tmps.getD q undef=v'):(results fn tmps).run P w=.ok (.tuple #[v,v']) w:=by
 subst h;subst h';simp [results,hf]
theorem Own.keep{B0:Nat}{R0:Nat→Prop}{olds:List (Nat×Nat)}{i j m:Nat}{φ:VP}{u:Nat→Got}{w:World}(hi:(i == j||i == m)=false)(hj:(j == m)=false)(h:(SP.own (B0:=B0) (R0:=R0) (olds:=olds) j m φ).p u w):(SP.own (B0:=B0) (R0:=R0) (olds:=olds) i m φ).p (upd u i ⟨(u j).v,w.heap.size,w.heap.size⟩) w:=by
 obtain⟨h1,b,h2,h3,h4⟩:=h
 simp only [Bool.or_eq_false_iff,beq_eq_false_iff_ne] at hi
 refine⟨?_,b,?_,h3,h4⟩
 ·show (upd u i _ i).v=(upd u i _ m).v
  rw [upd_same,upd_other _ _ (Ne.symm hi.2),h1]
 ·rw [upd_other _ _ (Ne.symm hi.2)];exact h2
theorem SP.tupKeep{B0:Nat}{R0:Nat→Prop}{olds:List (Nat×Nat)}{i j:Nat}{near near': List Nat}{φ:VP}{u:Nat→Got}{w:World}{v:Value}(hij:(near'.contains i||(j == i)||near.contains i)=false)(hs:(j::near').all (fun x=>near.contains x)=true)(h:φ.p (Settled R0 B0 (j::near') u) v w):(SP.val (B0:=B0) (R0:=R0) (olds:=olds) i near φ).p (upd u i ⟨v,w.heap.size,w.heap.size⟩) w:=by
 show φ.p _ (upd u i _ i).v w
 rw [upd_same]
 refine φ.mono (fun k hk hl=>?_) h
 rcases hl with hl|⟨h0,x,hx,hl⟩
 ·exact .inl hl
 ·have hx' : x ∈ near:=by simpa using List.all_eq_true.1 hs x hx
  refine .inr ⟨h0,x,by simp [hx'],?_⟩
  have:x≠i:=fun e=>by subst e;simp [hx'] at hij
  rw [upd_other u _ this];exact hl
theorem IntBlk.of{w:World}{b:Nat}{x y:Value}(h:w.heap[b]? = some (.cells #[x,y] 210 (0,0))):IntBlk w b:=⟨_,_,h⟩
theorem RatBlk.of{w:World}{b:Nat}{x y z t:Value}(h:w.heap[b]? = some (.cells #[x,y,z,t] 212 (0,0))):RatBlk w b:=⟨_,_,_,_,h⟩
theorem Rgn.Base.only0{W w0 w:World}{R0:Nat→Prop}{z:Nat}(h:Base w0.heap.size R0 [] w0 w)(hb:Only z W w0):Only z W w :=
 hb.trans ⟨h.grow.os,h.grow.tape,h.grow.output,h.grow.size,fun k hk _=>h.block k hk (by simp)⟩
theorem Rgn.Base.only{W w0 w:World}{R0:Nat→Prop}{olds:List (Nat×Nat)}{z:Nat}(h:Base w0.heap.size R0 olds w0 w)(hb:Only z W w0)(hn:W.heap.size≤w0.heap.size)(ho:∀ p ∈ olds,W.heap.size≤p.1):Only z W w :=
 ⟨h.grow.os.trans hb.os,h.grow.tape.trans hb.tape,h.grow.output.trans hb.output,Nat.le_trans hb.size h.grow.size,fun k hk hz=>(h.block k (by omega) (fun x i hx=>by have:=ho _ (List.mem_of_getElem? hx);simp at this;omega)).trans (hb.block k hk hz)⟩
theorem Rgn.Only.keep{z b:Nat}{w w': World}{o:Obj}(h:Only z w w')(hb:w.heap[b]? = some o)(hne:b≠z):w'.heap[b]? = some o:=by
 rw [h.block b (lt_of hb) hne];exact hb
theorem Rgn.Only.one{z b:Nat}{w w': World}(h:Only z w w')(hz:Soft w z∨Local w z)(φ:VP){v:Value}(hne:b≠z)(h0:φ.p (·=b) v w):φ.p (·=b) v w' := by
 refine φ.grow ⟨h.os,h.tape,h.output,h.size,fun k hk=>?_⟩ h0
 by_cases e:k=z
 ·subst e
  rcases hz with hz|hz
  ·exact .inr (.inr ⟨hz,fun e=>hne e.symm⟩)
  ·exact .inr (.inl hz)
 ·exact .inl (h.block k hk e)
theorem Rgn.Only.other{z k:Nat}{W w w': World}(h:Only k w w')(hk:W.heap.size≤k)(hn:W.heap.size≤w.heap.size):Only z W w→Only z W w' := fun g =>
 ⟨h.os.trans g.os,h.tape.trans g.tape,h.output.trans g.output,Nat.le_trans g.size h.size,fun j hj hz=>(h.block j (by omega) (by omega)).trans (g.block j hj hz)⟩
theorem only_below'{k:Nat}{W w w': World}(h:Only k w w')(hk:W.heap.size≤k)(hn:W.heap.size≤w.heap.size):Below W.heap.size w w' :=
 ⟨h.os,h.tape,h.output,h.size,fun j hj=>h.block j (by omega) (by omega)⟩
section
variable {P:Program} {ops:Array Oper} {Q:Exit→Act→World→Prop} {rest:List Oper} {o:Oper} {a:Act} {w:World}
theorem wpT_val{v:Value}(hg:o.guard=none)(hr:(execOp a.eval o).run P w=.ok (.value v) w)(h:wpList P ops Q rest (a.put o.dst v) w):wpList P ops Q (o::rest) a w:=by
 refine wpList_plain hg fun K hK=>?_
 simp only [Oper.wp,hr,Oper.upon]
 exact hK _ _ h
theorem wpT_skip{w': World}(hg:o.guard=none)(hr:(execOp a.eval o).run P w=.ok .skip w')(h:wpList P ops Q rest (a.put o.dst undef) w'):wpList P ops Q (o::rest) a w:=by
 refine wpList_plain hg fun K hK=>?_
 simp only [Oper.wp,hr,Oper.upon]
 exact hK _ _ h
theorem wpT_callO{f:FuncId}{args:Array Value}{z:Nat}{φ:VP}(hg:o.guard=none)(hr:(execOp a.eval o).run P w=.ok (.enter f args) w)(hc:Calls P f args w (RetOwn z φ w))(h:∀ w', φ.p (·=z) (.pointer (some ⟨z,0,none⟩)) w'→Only z w w'→wpList P ops Q rest (a.put o.dst (.pointer (some ⟨z,0,none⟩))) w'):wpList P ops Q (o::rest) a w:=by
 refine wpList_plain hg fun K hK=>?_
 simp only [Oper.wp,hr,Oper.upon]
 refine hc.mono fun e w' ⟨he,h1,h2⟩=>?_
 subst he
 exact hK _ _ (h w' h1 h2)
theorem ex_move{ρ:Operand→Value}{x:Operand}(ho:o.op=.move x):(execOp ρ o).run P w=.ok (.value (ρ x)) w:=by
 unfold execOp;simp only [ho];rfl
theorem ex_assign{ρ:Operand→Value}{x:Operand}(ho:o.op=.assign x):(execOp ρ o).run P w=.ok (.value (ρ x)) w:=by
 unfold execOp;simp only [ho];rfl
end
theorem lt_of_bl{n k:Nat}(h:bl n≤32*k):n<4294967296^k:=by
 rw [show (4294967296:Nat)=2^32 by decide,← Nat.pow_mul];exact bl_le.1 h
theorem Mag.wordsK{w:World}{v:Value}{n:Nat}(k:Nat)(h:Mag w v n)(hn:bl n≤32*k):∃ l,Words w v l∧Canon l∧val l=n∧l.length≤k:=by
 obtain⟨l,h1,h2,h3⟩:=h
 refine⟨l,h1,h2,h3,?_⟩
 exact (canon_len h1.bd h2).2 (by rw [h3];exact lt_of_bl hn)
theorem Mag.words{w:World}{v:Value}{n:Nat}(h:Mag w v n)(hn:bl n≤1099511627776):∃ l,Words w v l∧Canon l∧val l=n∧l.length≤34359738368:=h.wordsK 34359738368 (by omega)
theorem Ret.mag{S:Nat→Prop}{n:Nat}{W:World}{e:Ending}{w': World}(h:MagRet n W e w'):Ret (MagP n) S W e w' := by
 obtain⟨v,h1,h2,h3⟩:=h;exact⟨v,h1,h2,h3⟩
theorem bytes_len_le{n k:Nat}(h:bl n≤k):(bytesOf n).length≤k:=by
 rw [bytesOf_len,leB_len_le,show (256:Nat)=2^8 by decide,← Nat.pow_mul]
 exact bl_le.1 (by omega)
section
variable {S:Nat→Prop} {W:World}
theorem gWords(n:Nat)(p0:bl n≤1099511627776):Calls Tryz.prog 266 #[.string (bS n)] W (Ret (MagP n) S W):=by
 have hs:(bS n).size=(bytesOf n).length:=by simp [bS,ByteArray.size]
 refine (refwords_any (bS n) W (by rw [hs];exact bytes_len_le p0)).mono fun e w' ⟨v,l,h1,h2,h3,h4,h5⟩=>⟨v,h1,⟨l,h2,?_,?_⟩,h5⟩
 ·exact canon_words (s:=bytesOf n) h2.bd (by rw [h3,hs]) (by rw [h4];simp [bS]) (formB_bytesOf n)
 ·rw [h4];simp [bS,natB_bytesOf]
theorem gMade{v1:Value}(neg:Bool)(n:Nat)(t1:(MagP n).p S v1 W)(p0:bl n≤1099511627776):Calls Tryz.prog 264 #[.bool neg,v1] W (RetV (.agg #[.bool (neg&&n != 0),.string (bS n)]) W):=by
 obtain⟨l,h1,h2,h3,h4⟩:=Mag.words t1 p0
 subst h3
 exact (refmade_any neg v1 l W h1 (by omega)).mono fun e w' ⟨h1,h2⟩=>RetV.mk h1 h2
theorem gProduct{v0 v1:Value}(a b:Nat)(t0:(MagP a).p S v0 W)(t1:(MagP b).p S v1 W)(p0:bl a≤1099511627776)(p1:bl b≤1099511627776):Calls Tryz.prog 265 #[v0,v1] W (Ret (MagP (a*b)) S W):=by
 obtain⟨l,h1,h2,h3,h4⟩:=Mag.words t0 p0
 obtain⟨m,g1,g2,g3,g4⟩:=Mag.words t1 p1
 subst h3;subst g3
 exact (refproduct_any v0 v1 l m W h1 g1 (by omega) (by omega)).mono fun e w' h=>Ret.mag h
theorem gMore{v0 v1:Value}(a b:Nat)(t0:(MagP a).p S v0 W)(t1:(MagP b).p S v1 W)(p0:bl a≤1099511627776)(p1:bl b≤1099511627776):Calls Tryz.prog 270 #[v0,v1] W (Ret (MagP (a+b)) S W):=by
 obtain⟨l,h1,h2,h3,h4⟩:=Mag.words t0 p0
 obtain⟨m,g1,g2,g3,g4⟩:=Mag.words t1 p1
 subst h3;subst g3
 exact (refmore_any v0 v1 l m W h1 g1 (by omega) (by omega)).mono fun e w' h=>Ret.mag h
theorem gLess{v0 v1:Value}(a b:Nat)(t0:(MagP a).p S v0 W)(t1:(MagP b).p S v1 W)(p0:bl a≤1099511627776)(p1:b≤a):Calls Tryz.prog 272 #[v0,v1] W (Ret (MagP (a-b)) S W):=by
 obtain⟨l,h1,h2,h3,h4⟩:=Mag.words t0 p0
 obtain⟨m,g1,g2,g3,g4⟩:=Mag.words t1 (Nat.le_trans (bl_mono p1) p0)
 subst h3;subst g3
 exact (refless_any v0 v1 l m W h1 g1 g2 (by omega) p1).mono fun e w' h=>Ret.mag h
theorem gUnder{v0 v1:Value}(a b:Nat)(t0:(MagP a).p S v0 W)(t1:(MagP b).p S v1 W):Calls Tryz.prog 271 #[v0,v1] W (RetV (.int .i64 (cmp3 a b)) W):=by
 obtain⟨l,h1,h2,h3⟩:=t0
 obtain⟨m,g1,g2,g3⟩:=t1
 subst h3;subst g3
 exact (refunder_any v0 v1 l m W h1 g1 h2 g2).mono fun e w' ⟨h1,n,h2⟩=>RetV.mk h1 (by subst h2;exact below_drewN (Below.refl _ _) n)
theorem gDivided{v0 v1:Value}(a b:Nat)(t0:(MagP a).p S v0 W)(t1:(MagP b).p S v1 W)(p0:bl a≤1099511627776)(p1:b≠0):Calls Tryz.prog 303 #[v0,v1] W (Ret (VP.tup (MagP (a/b)) (MagP (a%b))) S W):=by
 obtain⟨l,h1,h2,h3,h4⟩:=Mag.words t0 p0
 obtain⟨m,g1,g2,g3⟩:=t1
 subst h3;subst g3
 exact (refdivided_any v0 v1 l m W h1 g1 h2 g2 (fun e=>p1 (by subst e;rfl)) (by omega)).mono fun e w' ⟨q,r,h1,h2,h3,h4⟩=>⟨_,h1,⟨q,r,rfl,h2,h3⟩,h4⟩
end
theorem bS_empty(n:Nat):(bS n).toList.isEmpty=decide (n=0):=by
 have h:(bS n).toList=bytesOf n:=by simp [bS,ByteArray.toList_eq]
 rw [h]
 by_cases hn:n=0
 ·subst hn;simp [bytesOf,leB_zero]
 ·simp [bytesOf,leB_pos hn,hn]
theorem Mag.open{w:World}{v:Value}{n:Nat}(h:Mag w v n):∃ p m c,v=.slice p m c∧(m=0↔n=0)∧m≤9223372036854775807:=by
 obtain⟨l,h1,h2,h3⟩:=h
 obtain⟨p,c,h4,h5,h6⟩:=h1.len
 refine⟨p,l.length,c,h4,?_,by omega⟩
 subst h3
 constructor
 ·intro h;rw [List.length_eq_zero_iff.1 h];rfl
 ·intro h
  rcases Nat.eq_zero_or_pos l.length with h0|h0
  ·exact h0
  ·have:=canon_val_pos h2 (fun e=>by rw [e] at h0;simp at h0);omega
theorem hi_bl(x:Int):bl x.natAbs<hi x:=by unfold hi;omega
theorem abs_w(x:Int):Value.agg #[.bool false,.string (bS x.natAbs)]=.agg #[.bool (decide ((x.natAbs:Int)<0)),.string (bS (x.natAbs:Int).natAbs)]:=by
 rw [decide_eq_false (by omega)];rfl
theorem sign_0{x:Int}(h:x.natAbs=0):Value.int .i64 0=.int .i64 x.sign:=by rw [show x=0 by omega];rfl
theorem sign_n{x:Int}(h:x<0):Value.int .i64 (-1)=.int .i64 x.sign:=by rw [Int.sign_eq_neg_one_of_neg h]
theorem sign_p{x:Int}(h': ¬ x.natAbs=0)(h:¬ x<0):Value.int .i64 1=.int .i64 x.sign:=by rw [Int.sign_eq_one_of_pos (by omega)]
theorem neg_w1{x:Int}(h:x<0):Value.agg #[.bool false,.string (bS x.natAbs)]=.agg #[.bool (decide (-x<0)),.string (bS (-x).natAbs)]:=by
 rw [Int.natAbs_neg,decide_eq_false (by omega)]
theorem neg_w2{x:Int}(h:x.natAbs=0):Value.agg #[.bool false,.string (bS x.natAbs)]=.agg #[.bool (decide (-x<0)),.string (bS (-x).natAbs)]:=by
 rw [Int.natAbs_neg,decide_eq_false (by omega)]
theorem neg_w3{x:Int}(h:¬ x<0)(h': ¬ x.natAbs=0):Value.agg #[.bool true,.string (bS x.natAbs)]=.agg #[.bool (decide (-x<0)),.string (bS (-x).natAbs)]:=by
 rw [Int.natAbs_neg,decide_eq_true (by omega)]
theorem wh_eq{a b:Int}(h:a=b):Value.agg #[.bool (decide (a<0)),.string (bS a.natAbs)]=.agg #[.bool (decide (b<0)),.string (bS b.natAbs)]:=by rw [h]
theorem sgn_neg(b:Bool)(n:Nat):(b&&n != 0)=decide (sgn b n<0):=by
 cases b
 ·simp [sgn]
 ·by_cases h:n=0
  ·subst h;rfl
  ·rw [decide_eq_true (show sgn true n<0 from (show -(n:Int)<0 by omega))];simpa using h
theorem sgn_abs(b:Bool)(n:Nat):(sgn b n).natAbs=n:=by cases b<;>simp [sgn]
theorem gMadeZ{S:Nat→Prop}{W:World}{v1:Value}(neg:Bool)(n:Nat)(t1:(MagP n).p S v1 W)(p0:bl n≤1099511627776):Calls Tryz.prog 264 #[.bool neg,v1] W (RetV (.agg #[.bool (decide (sgn neg n<0)),.string (bS (sgn neg n).natAbs)]) W):=by
 rw [← sgn_neg,sgn_abs];exact gMade neg n t1 p0
theorem sgn_self(x:Int):sgn (decide (x<0)) x.natAbs=x:=by
 unfold sgn;by_cases h:x<0<;>simp [h]<;>omega
theorem sgn_times(x y:Int):sgn (decide (x<0) != decide (y<0)) (x.natAbs*y.natAbs)=x*y:=by
 have h1:=sgn_self x
 have h2:=sgn_self y
 generalize x.natAbs=a at *
 generalize y.natAbs=b at *
 generalize decide (x<0)=c at *
 generalize decide (y<0)=d at *
 subst h1;subst h2
 cases c<;>cases d<;>simp [sgn,Int.neg_mul,Int.mul_neg]
theorem plus_1{x y:Int}(h:(decide (x<0) == decide (y<0))=true):sgn (decide (x<0)) (x.natAbs+y.natAbs)=x+y:=by
 unfold sgn;by_cases h1:x<0<;>by_cases h2:y<0<;>simp [h1,h2] at h ⊢<;>omega
theorem cmp3_ge_le{a b:Nat}(h:(0:Int)≤cmp3 a b):b≤a:=by
 rcases Nat.lt_or_ge a b with h1|h1
 ·rw [cmp3_lt h1] at h;omega
 ·exact h1
theorem cmp3_nge_le{a b:Nat}(h:¬ (0:Int)≤cmp3 a b):a≤b:=by
 rcases Nat.lt_trichotomy a b with h1|h1|h1
 ·omega
 ·omega
 ·rw [cmp3_gt h1] at h;omega
theorem plus_2{x y:Int}(h:(decide (x<0) == decide (y<0))=false)(h': (0:Int)≤cmp3 x.natAbs y.natAbs):sgn (decide (x<0)) (x.natAbs-y.natAbs)=x+y:=by
 have:=cmp3_ge_le h'
 unfold sgn;by_cases h1:x<0<;>by_cases h2:y<0<;>simp [h1,h2] at h ⊢<;>omega
theorem plus_3{x y:Int}(h:(decide (x<0) == decide (y<0))=false)(h': ¬ (0:Int)≤cmp3 x.natAbs y.natAbs):sgn (decide (y<0)) (y.natAbs-x.natAbs)=x+y:=by
 have:=cmp3_nge_le h'
 unfold sgn;by_cases h1:x<0<;>by_cases h2:y<0<;>simp [h1,h2] at h ⊢<;>omega
def icmp(x y:Int):Int:=if x<y then -1 else if y<x then 1 else 0
theorem icmp_lt{x y:Int}(h:x<y):icmp x y=-1:=by simp [icmp,h]
theorem icmp_gt{x y:Int}(h:y<x):icmp x y=1:=by unfold icmp;rw [if_neg (by omega),if_pos h]
theorem icmp_eq{x y:Int}(h:x=y):icmp x y=0:=by simp [icmp,h]
theorem sign3(x:Int):(x<0∧x.sign=-1)∨(x=0∧x.sign=0)∨(0<x∧x.sign=1):=by
 rcases Int.lt_trichotomy x 0 with h|h|h
 ·exact .inl ⟨h,Int.sign_eq_neg_one_of_neg h⟩
 ·subst h;exact .inr (.inl ⟨rfl,rfl⟩)
 ·exact .inr (.inr ⟨h,Int.sign_eq_one_of_pos h⟩)
theorem cmp3_in(a b:Nat):-1≤cmp3 a b∧cmp3 a b≤1:=by unfold cmp3;split<;>(try split)<;>omega
theorem sgn_cmp_in{x:Int}{a b:Nat}:-9223372036854775808≤x.sign*cmp3 a b∧x.sign*cmp3 a b≤9223372036854775807:=by
 have h:=cmp3_in a b
 rcases sign3 x with⟨_,h1⟩|⟨_,h1⟩|⟨_,h1⟩<;>rw [h1]<;>omega
theorem cmp_lt{x y:Int}(h:x.sign<y.sign):Value.int .i64 (-1)=.int .i64 (icmp x y):=by
 rw [icmp_lt]
 have h1:=sign3 x;have h2:=sign3 y;omega
theorem cmp_gt{x y:Int}(h:(x.sign != y.sign)=true)(h': ¬ x.sign<y.sign):Value.int .i64 1=.int .i64 (icmp x y):=by
 have h:x.sign≠y.sign:=by simpa using h
 rw [icmp_gt]
 have h1:=sign3 x;have h2:=sign3 y;omega
theorem cmp_eq{x y:Int}(h:(x.sign != y.sign)=false):Value.int .i64 (x.sign*cmp3 x.natAbs y.natAbs)=.int .i64 (icmp x y):=by
 have h:x.sign=y.sign:=by simpa using h
 congr 1
 have h1:=sign3 x;have h2:=sign3 y
 rcases Nat.lt_trichotomy x.natAbs y.natAbs with h3|h3|h3
 ·rw [cmp3_lt h3]
  rcases h1 with⟨a,b⟩|⟨a,b⟩|⟨a,b⟩<;>rw [b]
  ·rw [icmp_gt (by omega)];rfl
  ·omega
  ·rw [icmp_lt (by omega)];rfl
 ·rw [cmp3_eq h3,icmp_eq (by omega)];omega
 ·rw [cmp3_gt h3]
  rcases h1 with⟨a,b⟩|⟨a,b⟩|⟨a,b⟩<;>rw [b]
  ·rw [icmp_lt (by omega)];rfl
  ·omega
  ·rw [icmp_gt (by omega)];rfl
theorem gcd_step{a b g:Nat}(h:Nat.gcd a b=g)(hb:¬ b=0):Nat.gcd b (a%b)=g:=by
 rw [← h,Nat.gcd_comm a b,Nat.gcd_rec b a,Nat.gcd_comm]
theorem gcd_end{a b g:Nat}(h:Nat.gcd a b=g)(hb:b=0):sgn false a=(g:Int):=by
 subst hb;rw [Nat.gcd_zero_right] at h;subst h;rfl
theorem em_unique{x y q r:Int}(hy:y≠0)(h:y*q+r=x)(h0:0≤r)(h1:r<(y.natAbs:Int)):q=x/y∧r=x%y:=by
 have e:r%y=r:=by
  rcases Int.lt_or_le y 0 with g|g
  ·rw [← Int.emod_neg];exact Int.emod_eq_of_lt h0 (by omega)
  ·exact Int.emod_eq_of_lt h0 (by omega)
 subst h
 constructor
 ·rw [Int.add_comm,Int.add_mul_ediv_left _ _ hy]
  have:r/y=0:=by
   have:=Int.mul_ediv_add_emod r y
   rw [e] at this
   have:y*(r/y)=0:=by omega
   rcases Int.mul_eq_zero.1 this with h|h
   ·exact absurd h hy
   ·exact h
  omega
 ·rw [Int.add_comm,Int.add_mul_emod_self_left];exact e.symm
theorem len_gt{m n:Nat}(h:m=0↔n=0):decide (0<m) = !decide (n=0):=by
 by_cases e:n=0
 ·have:=h.2 e;simp [e,this]
 ·have:m≠0:=fun x=>e (h.1 x)
  simp [e];omega
theorem hi_sgn(b:Bool)(n:Nat):hi (sgn b n)=bl n+1:=by unfold hi;rw [sgn_abs]
theorem hi_nat(n:Nat):hi (n:Int)=bl n+1:=rfl
theorem dm_form(x y:Int):(x.natAbs:Int)=y.natAbs*((x.natAbs/y.natAbs:Nat):Int)+((x.natAbs%y.natAbs:Nat):Int):=by
 rw [← Int.natCast_mul,← Int.natCast_add,Nat.div_add_mod]
theorem dm_pos'{x y:Int}(hy:y≠0)(hx:¬ x<0):sgn (false != decide (y<0)) (x.natAbs/y.natAbs)=x/y∧sgn false (x.natAbs%y.natAbs)=x%y:=by
 have h:=dm_form x y
 have hr:=Nat.mod_lt x.natAbs (show 0<y.natAbs by omega)
 generalize x.natAbs/y.natAbs=q at *
 generalize x.natAbs%y.natAbs=r at *
 refine em_unique hy ?_ (show (0:Int)≤(r:Int) by omega) (show (r:Int)<(y.natAbs:Int) by omega)
 show y*sgn _ q+(r:Int)=x
 rcases Int.lt_or_le y 0 with g|g
 ·rw [decide_eq_true g]
  rw [show (y.natAbs:Int)=-y by omega,Int.neg_mul] at h
  simp only [sgn,bne,Bool.false_beq,Bool.not_true,Bool.not_false,if_true,Int.mul_neg];omega
 ·rw [decide_eq_false (by omega)]
  rw [show (y.natAbs:Int)=y by omega] at h
  simp only [sgn,bne,Bool.false_beq,Bool.not_true,Bool.not_false,Bool.false_eq_true,if_false];omega
theorem dm_neg0'{x y:Int}(hy:y≠0)(hx:x<0)(h0:x.natAbs%y.natAbs=0):sgn (true != decide (y<0)) (x.natAbs/y.natAbs)=x/y∧sgn false (x.natAbs%y.natAbs)=x%y:=by
 have h:=dm_form x y
 have hr:=Nat.mod_lt x.natAbs (show 0<y.natAbs by omega)
 generalize x.natAbs/y.natAbs=q at *
 generalize x.natAbs%y.natAbs=r at *
 refine em_unique hy ?_ (show (0:Int)≤(r:Int) by omega) (show (r:Int)<(y.natAbs:Int) by omega)
 show y*sgn _ q+(r:Int)=x
 rcases Int.lt_or_le y 0 with g|g
 ·rw [decide_eq_true g]
  rw [show (y.natAbs:Int)=-y by omega,Int.neg_mul] at h
  simp only [sgn,bne,Bool.true_beq,Bool.not_true,Bool.not_false,Bool.false_eq_true,if_false];omega
 ·rw [decide_eq_false (by omega)]
  rw [show (y.natAbs:Int)=y by omega] at h
  simp only [sgn,bne,Bool.true_beq,Bool.not_true,Bool.not_false,if_true,Int.mul_neg];omega
theorem dm_nn'{x y:Int}(hx:x<0)(h0:¬ x.natAbs%y.natAbs=0)(g:y<0):sgn (true != decide (y<0)) (x.natAbs/y.natAbs)+1=x/y∧(y.natAbs:Int)-sgn false (x.natAbs%y.natAbs)=x%y:=by
 have h:=dm_form x y
 have hr:=Nat.mod_lt x.natAbs (show 0<y.natAbs by omega)
 generalize x.natAbs/y.natAbs=q at *
 generalize x.natAbs%y.natAbs=r at *
 refine em_unique (by omega) ?_ (show (0:Int)≤(y.natAbs:Int)-(r:Int) by omega) (show (y.natAbs:Int)-(r:Int)<(y.natAbs:Int) by omega)
 show y*(sgn _ q+1)+((y.natAbs:Int)-(r:Int))=x
 rw [decide_eq_true g]
 rw [show (y.natAbs:Int)=-y by omega,Int.neg_mul] at h
 simp only [sgn,bne,Bool.true_beq,Bool.not_true,Bool.not_false,Bool.false_eq_true,if_false,Int.mul_add];omega
theorem dm_np'{x y:Int}(hx:x<0)(h0:¬ x.natAbs%y.natAbs=0)(g:¬ y<0)(hy:y≠0):sgn (true != decide (y<0)) (x.natAbs/y.natAbs)-1=x/y∧(y.natAbs:Int)-sgn false (x.natAbs%y.natAbs)=x%y:=by
 have h:=dm_form x y
 have hr:=Nat.mod_lt x.natAbs (show 0<y.natAbs by omega)
 generalize x.natAbs/y.natAbs=q at *
 generalize x.natAbs%y.natAbs=r at *
 refine em_unique (by omega) ?_ (show (0:Int)≤(y.natAbs:Int)-(r:Int) by omega) (show (y.natAbs:Int)-(r:Int)<(y.natAbs:Int) by omega)
 show y*(sgn _ q-1)+((y.natAbs:Int)-(r:Int))=x
 rw [decide_eq_false g]
 rw [show (y.natAbs:Int)=y by omega] at h
 simp only [sgn,bne,Bool.true_beq,Bool.not_true,Bool.not_false,if_true,Int.mul_sub,Int.mul_neg];omega
abbrev WH(z:Int):Value:=.agg #[.bool (decide (z<0)),.string (bS z.natAbs)]
theorem dm_pos{x y:Int}(hy:y≠0)(hx:¬ x<0):Value.tuple #[WH (sgn (false != decide (y<0)) (x.natAbs/y.natAbs)),WH (sgn false (x.natAbs%y.natAbs))]=.tuple #[WH (x/y),WH (x%y)]:=by
 rw [(dm_pos' hy hx).1,(dm_pos' hy hx).2]
theorem dm_neg0{x y:Int}(hy:y≠0)(hx:x<0)(h0:x.natAbs%y.natAbs=0):Value.tuple #[WH (sgn (true != decide (y<0)) (x.natAbs/y.natAbs)),WH (sgn false (x.natAbs%y.natAbs))]=.tuple #[WH (x/y),WH (x%y)]:=by
 rw [(dm_neg0' hy hx h0).1,(dm_neg0' hy hx h0).2]
theorem dm_nn{x y:Int}(hx:x<0)(h0:¬ x.natAbs%y.natAbs=0)(g:y<0):Value.tuple #[WH (sgn (true != decide (y<0)) (x.natAbs/y.natAbs)+1),WH ((y.natAbs:Int)-sgn false (x.natAbs%y.natAbs))]=.tuple #[WH (x/y),WH (x%y)]:=by
 rw [(dm_nn' hx h0 g).1,(dm_nn' hx h0 g).2]
theorem dm_np{x y:Int}(hx:x<0)(h0:¬ x.natAbs%y.natAbs=0)(g:¬ y<0)(hy:y≠0):Value.tuple #[WH (sgn (true != decide (y<0)) (x.natAbs/y.natAbs)-1),WH ((y.natAbs:Int)-sgn false (x.natAbs%y.natAbs))]=.tuple #[WH (x/y),WH (x%y)]:=by
 rw [(dm_np' hx h0 g hy).1,(dm_np' hx h0 g hy).2]
theorem inBlock_here{id:Nat}{Q:Exit→Act→World→Prop}{a:Act}{w:World}(h:Q .normal a w):Exit.inBlock id Q (.exit id) a w:=by
 show (if id=id then _ else _)
 rw [if_pos rfl];exact h
theorem inBlock_normal{id:Nat}{Q:Exit→Act→World→Prop}{a:Act}{w:World}(h:Q .normal a w):Exit.inBlock id Q .normal a w:=h
theorem then_exit{i:Nat}{K:Act→World→Prop}{Q:Exit→Act→World→Prop}{a:Act}{w:World}(h:Q (.exit i) a w):Exit.then K Q (.exit i) a w:=h
theorem results_rows2{P:Program}{fn:Func}{p q ty ty': Nat}{tmps:Array Value}{w:World}{g g': Nat}(hf:fn.results=#[.cell p ty,.cell q ty'])(hp:tmps.getD p undef=.pointer (some ⟨g,0,none⟩)){t:TypeId}{cs:Array Value}{fr:Nat×Nat}(hg:w.heap[g]? = some (.cells cs t fr)){d:TypeDesc}(hu:P.underlying ty=some d)(hd:(match d with|.struct _|.array _ _=>true|_=>false)=true)(hi:(P.info? ty).map (·.size)=some cs.size)(hp': tmps.getD q undef=.pointer (some ⟨g', 0,none⟩)){t': TypeId}{cs': Array Value}{fr': Nat×Nat}(hg': w.heap[g']? = some (.cells cs' t' fr')){d': TypeDesc}(hu': P.underlying ty'=some d')(hd': (match d' with|.struct _|.array _ _=>true|_=>false)=true)(hi': (P.info? ty').map (·.size)=some cs'.size):(results fn tmps).run P w=.ok (.tuple #[.agg cs,.agg cs']) w:=by
 have hp:tmps[p]?.getD undef=.pointer (some ⟨g,0,none⟩):=by simpa using hp
 have hp' : tmps[q]?.getD undef=.pointer (some ⟨g', 0,none⟩):=by simpa using hp'
 have hl:=run_loadVar_row (P:=P) w g t ty cs fr d hg hu hd hi
 have hl' := run_loadVar_row (P:=P) w g' t' ty' cs' fr' d' hg' hu' hd' hi'
 simp only [results,hf]
 simp [hp,hl,hp', hl', asAddr]
abbrev U:Value:=undef
abbrev us(n:Nat):List Value:=List.replicate n undef
def sq(u:Nat→Got)(a:Nat):Nat→List Value→List Value
 | 0,l=>l
 | n+1,l=>(u a).v::sq u (a+1) n l
abbrev fr(l:List Value):Act:=⟨l.toArray,[]⟩
instance:Coe Got Value:=⟨Got.v⟩
abbrev pt(b:Nat):Value:=.pointer (some ⟨b,0,none⟩)
abbrev wC(z:Int):Array Value:=#[.bool (decide (z<0)),.string (bS z.natAbs)]
abbrev fC(q:Rat):Array Value:=#[.bool (decide (q.num<0)),.string (bS q.num.natAbs),.bool (decide ((q.den:Int)<0)),.string (bS (q.den:Int).natAbs)]
abbrev gC(c:Cx):Array Value:=#[.bool (decide (c.re.num<0)),.string (bS c.re.num.natAbs),.bool (decide ((c.re.den:Int)<0)),.string (bS (c.re.den:Int).natAbs),.bool (decide (c.im.num<0)),.string (bS c.im.num.natAbs),.bool (decide ((c.im.den:Int)<0)),.string (bS (c.im.den:Int).natAbs)]
abbrev wV(z:Int):Value:=.agg (wC z)
abbrev fV(q:Rat):Value:=.agg (fC q)
abbrev gV(c:Cx):Value:=.agg (gC c)
structure RW where
 n:Bool
 s:ByteArray
 deriving DecidableEq
structure RF where
 a:RW
 b:RW
 deriving DecidableEq
structure RG where
 re:RF
 im:RF
 deriving DecidableEq
@[reducible] def rw(z:Int):RW:=⟨decide (z<0),bS z.natAbs⟩
@[reducible] def rf(q:Rat):RF:=⟨rw q.num,rw (q.den:Int)⟩
@[reducible] def rg(c:Cx):RG:=⟨rf c.re,rf c.im⟩
abbrev rwC(r:RW):Array Value:=#[.bool r.n,.string r.s]
abbrev rfC(r:RF):Array Value:=#[.bool r.a.n,.string r.a.s,.bool r.b.n,.string r.b.s]
abbrev rgC(r:RG):Array Value:=#[.bool r.re.a.n,.string r.re.a.s,.bool r.re.b.n,.string r.re.b.s,.bool r.im.a.n,.string r.im.a.s,.bool r.im.b.n,.string r.im.b.s]
abbrev rwV(r:RW):Value:=.agg (rwC r)
abbrev rfV(r:RF):Value:=.agg (rfC r)
abbrev rgV(r:RG):Value:=.agg (rgC r)
abbrev wwC(g:Int×Int):Array Value:=#[.bool (decide (g.1<0)),.string (bS g.1.natAbs),.bool (decide (g.2<0)),.string (bS g.2.natAbs)]
abbrev wwV(g:Int×Int):Value:=.agg (wwC g)
abbrev zW:Array Value:=#[.bool false,.string ⟨#[]⟩]
abbrev zF:Array Value:=#[.bool false,.string ⟨#[]⟩,.bool false,.string ⟨#[]⟩]
abbrev zG:Array Value:=#[.bool false,.string ⟨#[]⟩,.bool false,.string ⟨#[]⟩,.bool false,.string ⟨#[]⟩,.bool false,.string ⟨#[]⟩]
abbrev zI:Array Value:=#[.bool false,.slice none 0 0]
abbrev zQ:Array Value:=#[.bool false,.slice none 0 0,.bool false,.slice none 0 0]
def Z0:Nat→Prop:=fun _=>False
theorem le2{a b c:Nat}(h:a≤b)(g:b≤c):a≤c:=Nat.le_trans h g
def nth{α:Type}:List α→Nat→Option α
 | [],_=>none
 | x::_,0=>some x
 | _::l,k+1=>nth l k
theorem nth_mem{α:Type}:∀ {l:List α} {k:Nat} {x:α},nth l k=some x→x ∈ l
 | _::_,0,_,h=>by cases h;exact List.mem_cons_self
 | _::_,_+1,_,h=>List.mem_cons_of_mem _ (nth_mem h)
theorem nth_get{α:Type}:∀ (l:List α) (k:Nat) {x:α},nth l k=some x→l[k]? = some x:=fun l=>by
 induction l with
 | nil=>intro k x h;cases h
 | cons a l ih =>
  intro k x h
  cases k with
  | zero=>simpa [nth] using h
  | succ k=>simpa using ih k h
def aggB(P:Program)(t:TypeId):Bool:=match P.underlying t with|some (.struct _)|some (.array _ _)=>true|_=>false
theorem aggB_ex{P:Program}{t:TypeId}(h:aggB P t=true):∃ d,P.underlying t=some d∧(match d with|.struct _|.array _ _=>true|_=>false)=true:=by
 unfold aggB at h
 cases e:P.underlying t with
 | none=>rw [e] at h;cases h
 | some d=>refine⟨d,rfl,?_⟩;rw [e] at h;cases d<;>first|rfl|cases h
theorem ar1{ρ:Operand→Value}{x a}(h:ρ x=a):#[x].map ρ=#[a]:=by simp [*]
theorem ar2{ρ:Operand→Value}{x y a b}(h:ρ x=a)(h2:ρ y=b):#[x,y].map ρ=#[a,b]:=by simp [*]
theorem ar3{ρ:Operand→Value}{x y z a b c}(h:ρ x=a)(h2:ρ y=b)(h3:ρ z=c):#[x,y,z].map ρ=#[a,b,c]:=by simp [*]
theorem ar5{ρ:Operand→Value}{x y z t s a b c d e}(h:ρ x=a)(h2:ρ y=b)(h3:ρ z=c)(h4:ρ t=d)(h5:ρ s=e):#[x,y,z,t,s].map ρ=#[a,b,c,d,e]:=by simp [*]
section
variable {P:Program} {ρ:Operand→Value} {o:Oper} {w:World} {V a b:Value} {x y:Operand}
theorem x_mv(hx:ρ x=V)(ho:o.op=.move x:=by rfl):(execOp ρ o).run P w=.ok (.value V) w:=by subst hx;exact ex_move ho
theorem x_as(hx:ρ x=V)(ho:o.op=.assign x:=by rfl):(execOp ρ o).run P w=.ok (.value V) w:=by subst hx;exact ex_assign ho
theorem x_nc{p:Addr}(hx:ρ x=.pointer (some p))(ho:o.op=.nilCheck x:=by rfl):(execOp ρ o).run P w=.ok (.value (.pointer (some p))) w:=by
 unfold execOp;simp only [ho,hx];rfl
theorem x_fa{s:TypeId}{f:Nat}(hx:ρ x=a)(ho:o.op=.fieldAddr s x f:=by rfl)(he:(Instr.fieldAt s a f).run P w=.ok V w:=by kernel_rfl):(execOp ρ o).run P w=.ok (.value V) w:=by
 subst hx;unfold execOp;simp only [ho,Sem.run_bind,he,Result.andThen_ok];rfl
theorem x_ex{k:Nat}{vs:Array Value}(hx:ρ x=.tuple vs)(ho:o.op=.extract x k:=by rfl)(he:nth vs.toList k=some V:=by rfl):(execOp ρ o).run P w=.ok (.value V) w:=by
 have he:vs[k]? = some V:=by simpa using nth_get _ _ he
 unfold execOp;simp only [ho,hx,Instr.extract,he,Sem.run_bind,Sem.run_pure,Result.andThen_ok]
theorem x_not{t:TypeId}{c d:Bool}(hx:ρ x=.bool c)(ho:o.op=.unOp .not t x:=by rfl)(hd:(!c)=d:=by rfl):(execOp ρ o).run P w=.ok (.value (.bool d)) w:=by
 subst hd
 unfold execOp;simp only [ho,hx,Op.unary,Sem.run_bind,Sem.run_pure,Result.andThen_ok]
theorem x_pkT{c:Operand}(hc:ρ c=.bool true)(hx:ρ x=V)(ho:o.op=.pick c x y:=by rfl):(execOp ρ o).run P w=.ok (.value V) w:=by
 subst hx;unfold execOp;simp only [ho,hc];rfl
theorem x_pkF{c:Operand}(hc:ρ c=.bool false)(hx:ρ y=V)(ho:o.op=.pick c x y:=by rfl):(execOp ρ o).run P w=.ok (.value V) w:=by
 subst hx;unfold execOp;simp only [ho,hc];rfl
theorem x_cmp{op:BinOp}{t r:TypeId}{k:IntKind}{n m:Int}(hx:ρ x=.int k n)(hy:ρ y=.int k m)(ho:o.op=.binOp op t x y r:=by rfl)(hk:(op matches .eql|.neq|.lss|.leq|.gtr|.geq)=true:=by rfl)(he:(Op.intCmp op n m).run P w=.ok V w:=by kernel_rfl):(execOp ρ o).run P w=.ok (.value V) w:=by
 unfold execOp
 cases op<;>first|(cases hk;done)|simp [ho,hx,hy,eqGuard,binOp,he,Result.andThen]
theorem x_cm{op:BinOp}{t r:TypeId}{k:IntKind}{n m:Int}{c d:Bool}(hx:ρ x=.int k n)(hy:ρ y=.int k m)(hc:c=d)(ho:o.op=.binOp op t x y r:=by rfl)(hk:(op matches .eql|.neq|.lss|.leq|.gtr|.geq)=true:=by rfl)(he:(Op.intCmp op n m).run P w=.ok (.bool c) w:=by kernel_rfl):(execOp ρ o).run P w=.ok (.value (.bool d)) w:=by subst hc;exact x_cmp hx hy ho hk he
theorem x_beq{t r:TypeId}{c d:Bool}(hx:ρ x=.bool c)(hy:ρ y=.bool d)(ho:o.op=.binOp .eql t x y r:=by rfl)(he:(Op.equal t (.bool c) (.bool d)).run P w=.ok (c == d) w:=by kernel_rfl):(execOp ρ o).run P w=.ok (.value (.bool (c == d))) w:=by
 unfold execOp;simp [ho,hx,hy,eqGuard,binOp,he,Result.andThen]
theorem x_bne{t r:TypeId}{c d:Bool}(hx:ρ x=.bool c)(hy:ρ y=.bool d)(ho:o.op=.binOp .neq t x y r:=by rfl)(he:(Op.equal t (.bool c) (.bool d)).run P w=.ok (c == d) w:=by kernel_rfl):(execOp ρ o).run P w=.ok (.value (.bool (c != d))) w:=by
 unfold execOp;simp [ho,hx,hy,eqGuard,binOp,he,Result.andThen,bne]
theorem x_ari{op:BinOp}{t r:TypeId}{k:IntKind}{n m z:Int}(hx:ρ x=.int k n)(hy:ρ y=.int k m)(hz:k.wrap z=z)(ho:o.op=.binOp op t x y r:=by rfl)(hk:(op matches .add|.sub|.mul)=true:=by rfl)(he:(match op with|.add=>n+m|.sub=>n-m|_=>n*m)=z:=by rfl):(execOp ρ o).run P w=.ok (.value (.int k z)) w:=by
 unfold execOp
 subst he
 cases op<;>first|(cases hk;done)|(simp only at hz;simp [ho,hx,hy,eqGuard,binOp,Op.intArith,hz,Result.andThen])
theorem x_ldr{ty t:TypeId}{g:Nat}{cs:Array Value}{fr:Nat×Nat}(hx:ρ x=.pointer (some ⟨g,0,none⟩))(hB:w.heap[g]? = some (.cells cs t fr))(ho:o.op=.load ty x:=by rfl)(hd:aggB P ty=true:=by kernel_rfl)(hi:(P.info? ty).map (·.size)=some cs.size:=by kernel_rfl):(execOp ρ o).run P w=.ok (.value (.agg cs)) w:=by
 obtain⟨d,h1,h2⟩:=aggB_ex hd
 exact ex_load_row ty _ ho hx hB h1 (by cases d<;>first|rfl|cases h2) hi
theorem x_ldp{ty t:TypeId}{g off:Nat}{cs vs:Array Value}{fr:Nat×Nat}(hx:ρ x=.pointer (some ⟨g,off,none⟩))(hB:w.heap[g]? = some (.cells cs t fr))(ho:o.op=.load ty x:=by rfl)(hd:aggB P ty=true:=by kernel_rfl)(hi:(P.info? ty).map (·.size)=some vs.size:=by kernel_rfl)(hn:(off+vs.size).ble cs.size=true:=by kernel_rfl)(hv:cs.extract off (off+vs.size)=vs:=by kernel_rfl):(execOp ρ o).run P w=.ok (.value (.agg vs)) w:=by
 obtain⟨d,h1,h2⟩:=aggB_ex hd
 exact ex_load_part ty _ ho hx hB h1 (by cases d<;>first|rfl|cases h2) _ hi (Nat.le_of_ble_eq_true hn) hv
def cellB(P:Program)(t:TypeId):Bool:=match P.underlying t with|none|some (.struct _)|some (.array _ _)=>false|_=>true
theorem run_isAgg_cell{ty:TypeId}(hd:cellB P ty=true):(isAgg ty).run P w=.ok false w:=by
 unfold cellB at hd
 cases e:P.underlying ty with
 | none=>rw [e] at hd;cases hd
 | some d=>rw [e] at hd;cases d<;>first|(cases hd;done)|simp [isAgg,run_underlying e]
theorem x_ldc{ty t:TypeId}{g off:Nat}{cs:Array Value}{fr:Nat×Nat}(hx:ρ x=.pointer (some ⟨g,off,none⟩))(hB:w.heap[g]? = some (.cells cs t fr))(ho:o.op=.load ty x:=by rfl)(hd:cellB P ty=true:=by kernel_rfl)(hv:nth cs.toList off=some V:=by rfl):(execOp ρ o).run P w=.ok (.value V) w:=by
 have h1:=cell_of hB (by simpa using nth_get _ _ hv:cs[off]? = some V)
 have h2:=run_isAgg_cell (w:=w) hd
 unfold execOp
 simp [ho,hx,Instr.loadAt,Instr.sureAddr,loadVar,h2,h1,go_sem]
end
section
variable {P:Program} {ops:Array Oper} {Q:Exit→Act→World→Prop} {B0:Nat} {R0:Nat→Prop} {olds:List (Nat×Nat)} {ws:List Nat} {a0:Act} {w0:World} {F:List (Pl B0 R0 olds)→Prop} {F0:List (Pl w0.heap.size R0 olds)→Prop}
section
variable {rp:List (Nat×Pl B0 R0 olds)} {i:Nat} {u:Nat→Got} {w:World} {ρ:Operand→Value} (h:Here2 ops a0 olds w0 rp i u w ρ)
include h
theorem Rgn.Here2.a(j:Nat){p:Pl B0 R0 olds}(hm:nth rp (i-1-j)=some (j,p):=by rfl)(hb:pre ops i j=true:=by kernel_rfl):p.fact j u w:=h.f (nth_mem hm) hb
theorem Rgn.Here2.g(t j:Nat){V:Value}(hm:nth rp (i-1-j)=some (j,.op none (.eq j V)):=by rfl)(hs:dstIdx ops t=some j:=by kernel_rfl)(hb:pre ops i j=true:=by kernel_rfl):ρ (.tmp t)=V:=h.e t j hs (h.f (nth_mem hm) hb)
theorem Rgn.Here2.r(t j:Nat)(hs:dstIdx ops t=some j:=by kernel_rfl):ρ (.tmp t)=(u j).v:=h.s t j hs
theorem Rgn.Here2.p(t j:Nat){V:Value}(hv:(u j).v=V)(hs:dstIdx ops t=some j:=by kernel_rfl):ρ (.tmp t)=V:=(h.s t j hs).trans hv
theorem Rgn.Here2.z(t:Nat){V:Value}(hv:a0.tmps.getD t undef=V)(hs:dstIdx ops t=none:=by kernel_rfl):ρ (.tmp t)=V:=(h.s0 t hs).trans hv
theorem Rgn.Here2.y(t:Nat)(hs:dstIdx ops t=none:=by kernel_rfl):ρ (.tmp t)=a0.tmps.getD t undef:=h.s0 t hs
theorem Rgn.Here2.v(t:Nat)(V:Value)(hv:a0.tmps.getD t undef=V:=by rfl)(hs:dstIdx ops t=none:=by kernel_rfl):ρ (.tmp t)=V:=(h.s0 t hs).trans hv
theorem Rgn.Here2.c(v:Value):ρ (.const v)=v:=h.const v
theorem Rgn.Here2.bo{k:Nat}{o:Obj}(hk:w0.heap[k]? = some o)(x i': Nat)(hx:olds[x]? = some (k,i'):=by rfl)(hor:(i' == i||pre ops i' i)=true:=by kernel_rfl):w.heap[k]? = some o :=
 h.blkOld hk x i' hx (by rw [Bool.or_eq_true,beq_iff_eq] at hor;exact hor)
end
theorem Rgn.Here2.b{rp:List (Nat×Pl w0.heap.size R0 [])}{i:Nat}{u:Nat→Got}{w:World}{ρ:Operand→Value}(h:Here2 ops a0 [] w0 rp i u w ρ){k:Nat}{o:Obj}(hk:w0.heap[k]? = some o):w.heap[k]? = some o:=h.blk hk (Nat.le_refl _) (no_nil _)
theorem Rgn.Here2.bn{rp:List (Nat×Pl w0.heap.size R0 olds)}{i:Nat}{u:Nat→Got}{w:World}{ρ:Operand→Value}(h:Here2 ops a0 olds w0 rp i u w ρ){k:Nat}{o:Obj}(hk:w0.heap[k]? = some o)(hno:∀ (x i:Nat),olds[x]? ≠ some (k,i)):w.heap[k]? = some o:=h.blk hk (Nat.le_refl _) hno
theorem Rgn.Here2.w{rp:List (Nat×Pl w0.heap.size R0 olds)}{i:Nat}{u:Nat→Got}{w:World}{ρ:Operand→Value}(h:Here2 ops a0 olds w0 rp i u w ρ){φ:VP}{v:Value}{b:Nat}(h0:φ.p (·=b) v w0)(hb:R0 b){near:List Nat}:φ.p (Settled R0 w0.heap.size near u) v w:=h.was φ near (VP.at h0 hb)
section
variable {k i:Nat} {rp:List (Nat×Pl B0 R0 olds)} {o:Oper}
theorem Rgn.gq(q:Nat){b:Bool}{d:Tmp}(h:o.guard=some (q,b))(hm:nth rp (i-1-q)=some (q,.op none (.eq q (.bool b))):=by rfl)(hd:dstOf ops q=some d:=by rfl)(hB:(apartB ops&&inB ops a0&&decide (q<ops.size))=true:=by kernel_rfl)(hb:pre ops i q=true:=by kernel_rfl):Gd2 ops a0 w0 rp i o :=
 G1 q b d h hd hB (fun _ _ _ H=>H.f (nth_mem hm) hb)
theorem Rgn.Go2.sk(ho:ops[i]? = some o)(q:Nat){b:Bool}{d:Tmp}(rest:Go2 P ops a0 w0 F k (i+1) ((i,.op none SP.triv)::rp))(hm:nth rp (i-1-q)=some (q,.op none (.eq q (.bool b))):=by rfl)(h:o.guard=some (q,!b):=by rfl)(hd:dstOf ops q=some d:=by rfl)(hB:(apartB ops&&inB ops a0&&decide (q<ops.size))=true:=by kernel_rfl)(hb:pre ops i q=true:=by kernel_rfl):Go2 P ops a0 w0 F (k+1) i rp :=
 Go2.skip ho q b d h hd hB (fun _ _ _ H=>H.f (nth_mem hm) hb) rest
theorem Rgn.Go2.e(ho:ops[i]? = some o){V:Value}(h:∀ {u w ρ},Here2 ops a0 olds w0 rp i u w ρ→(execOp ρ o).run P w=.ok (.value V) w)(rest:Go2 P ops a0 w0 F k (i+1) ((i,.op none (.eq i V))::rp))(hg:Gd2 ops a0 w0 rp i o:=by exact G0 rfl):Go2 P ops a0 w0 F (k+1) i rp:=Go2.eq ho hg (fun _ _ _ H=>h H) rest
theorem Rgn.Go2.mv(ho:ops[i]? = some o)(j:Nat){t:Tmp}{V:Value}(rest:Go2 P ops a0 w0 F k (i+1) ((i,.op none (.eq i V))::rp))(hop:o.op=.move (.tmp t)∨o.op=.assign (.tmp t):=by first|exact .inl rfl|exact .inr rfl)(hm:nth rp (i-1-j)=some (j,.op none (.eq j V)):=by rfl)(hs:dstIdx ops t=some j:=by kernel_rfl)(hb:pre ops i j=true:=by kernel_rfl)(hg:Gd2 ops a0 w0 rp i o:=by exact G0 rfl):Go2 P ops a0 w0 F (k+1) i rp :=
 Go2.eq ho hg (fun _ _ _ H=>by
  have h1:=H.g t j hm hs hb
  rcases hop with hop|hop
  ·exact x_mv h1 hop
  ·exact x_as h1 hop) rest
theorem Rgn.Go2.nc(ho:ops[i]? = some o)(j:Nat){t:Tmp}{p:Addr}(rest:Go2 P ops a0 w0 F k (i+1) ((i,.op none (.eq i (.pointer (some p))))::rp))(hop:o.op=.nilCheck (.tmp t):=by rfl)(hm:nth rp (i-1-j)=some (j,.op none (.eq j (.pointer (some p)))):=by rfl)(hs:dstIdx ops t=some j:=by kernel_rfl)(hb:pre ops i j=true:=by kernel_rfl)(hg:Gd2 ops a0 w0 rp i o:=by exact G0 rfl):Go2 P ops a0 w0 F (k+1) i rp :=
 Go2.eq ho hg (fun _ _ _ H=>x_nc (H.g t j hm hs hb) hop) rest
theorem Rgn.Go2.fj(ho:ops[i]? = some o)(j f:Nat){t g off s q:Nat}(rest:Go2 P ops a0 w0 F k (i+1) ((i,.op none (.eq i (.pointer (some ⟨g,f,none⟩))))::rp))(hop:o.op=.fieldAddr s (.tmp t) q:=by rfl)(hm:nth rp (i-1-j)=some (j,.op none (.eq j (.pointer (some ⟨g,off,none⟩)))):=by rfl)(he:∀ w,(Instr.fieldAt s (.pointer (some ⟨g,off,none⟩)) q).run P w=.ok (.pointer (some ⟨g,f,none⟩)) w:=by intro w;kernel_rfl)(hs:dstIdx ops t=some j:=by kernel_rfl)(hb:pre ops i j=true:=by kernel_rfl)(hg:Gd2 ops a0 w0 rp i o:=by exact G0 rfl):Go2 P ops a0 w0 F (k+1) i rp :=
 Go2.eq ho hg (fun _ w _ H=>x_fa (H.g t j hm hs hb) hop (he w)) rest
theorem Rgn.Go2.fz(ho:ops[i]? = some o)(t f:Nat){g off s q:Nat}(hv:a0.tmps.getD t undef=.pointer (some ⟨g,off,none⟩))(rest:Go2 P ops a0 w0 F k (i+1) ((i,.op none (.eq i (.pointer (some ⟨g,f,none⟩))))::rp))(hop:o.op=.fieldAddr s (.tmp t) q:=by rfl)(he:∀ w,(Instr.fieldAt s (.pointer (some ⟨g,off,none⟩)) q).run P w=.ok (.pointer (some ⟨g,f,none⟩)) w:=by intro w;kernel_rfl)(hs:dstIdx ops t=none:=by kernel_rfl)(hg:Gd2 ops a0 w0 rp i o:=by exact G0 rfl):Go2 P ops a0 w0 F (k+1) i rp :=
 Go2.eq ho hg (fun _ w _ H=>x_fa (H.z t hv hs) hop (he w)) rest
theorem Rgn.Go2.mc(ho:ops[i]? = some o){V:Value}(rest:Go2 P ops a0 w0 F k (i+1) ((i,.op none (.eq i V))::rp))(hop:o.op=.move (.const V)∨o.op=.assign (.const V):=by first|exact .inl rfl|exact .inr rfl)(hg:Gd2 ops a0 w0 rp i o:=by exact G0 rfl):Go2 P ops a0 w0 F (k+1) i rp :=
 Go2.eq ho hg (fun _ _ _ H=>by
  rcases hop with hop|hop
  ·exact x_mv (H.const V) hop
  ·exact x_as (H.const V) hop) rest
theorem Rgn.Go2.mz(ho:ops[i]? = some o)(t:Tmp){V:Value}(hv:a0.tmps.getD t undef=V)(rest:Go2 P ops a0 w0 F k (i+1) ((i,.op none (.eq i V))::rp))(hop:o.op=.move (.tmp t)∨o.op=.assign (.tmp t):=by first|exact .inl rfl|exact .inr rfl)(hs:dstIdx ops t=none:=by kernel_rfl)(hg:Gd2 ops a0 w0 rp i o:=by exact G0 rfl):Go2 P ops a0 w0 F (k+1) i rp :=
 Go2.eq ho hg (fun _ _ _ H=>by
  rcases hop with hop|hop
  ·exact x_mv (H.z t hv hs) hop
  ·exact x_as (H.z t hv hs) hop) rest
theorem Rgn.Go2.al(ho:ops[i]? = some o)(c:Array Value){T:TypeId}(rest:Go2 P ops a0 w0 F k (i+1) ((i,.alloc c T)::rp))(hop:o.op=.alloc T:=by rfl)(hz:((P.info? T).bind (·.zero)).map (·.cells)=some c:=by kernel_rfl)(hg:o.guard=none:=by rfl):Go2 P ops a0 w0 F (k+1) i rp :=
 Go2.alloc ho hg (fun u w ρ H=>by
  cases e:P.info? T with
  | none=>rw [e] at hz;cases hz
  | some q =>
   rw [e] at hz
   cases e2:q.zero with
   | none=>simp [e2] at hz
   | some v =>
    have hc:v.cells=c:=by simpa [e2] using hz
    subst hc
    unfold execOp
    simp [hop,Instr.alloc,zeroValue,typeInfo,e,e2,newVar,newRow,go_sem]) rest
theorem Rgn.Go2.bx(ho:ops[i]? = some o){x:Operand}{v:Value}{c:Array Value}{T:TypeId}(h:∀ {u w ρ},Here2 ops a0 olds w0 rp i u w ρ→ρ x=v)(rest:Go2 P ops a0 w0 F k (i+1) ((i,.alloc c T)::rp))(hop:o.op=.box T x:=by rfl)(hc:v.cells=c:=by rfl)(hg:o.guard=none:=by rfl):Go2 P ops a0 w0 F (k+1) i rp :=
 Go2.alloc ho hg (fun u w ρ H=>by
  subst hc
  have h1:=h H
  unfold execOp
  simp [hop,h1,Instr.box,newVar,newRow,go_sem]) rest
theorem Rgn.Go2.so(ho:ops[i]? = some o)(m:Nat){c cs:Array Value}{T ty:TypeId}{x y:Operand}(h:∀ {u w ρ},Here2 ops a0 olds w0 rp i u w ρ→ρ x=(u m).v∧ρ y=.agg cs)(rest:Go2 P ops a0 w0 F k (i+1) ((i,.op (some m) (.cells m [] (fun _=>cs) T (fun _ _ _=>rfl)))::rp))(hm:nth rp (i-1-m)=some (m,.alloc c T):=by rfl)(hop:o.op=.store ty x y:=by rfl)(hi:(P.info? ty).map (·.size)=some cs.size:=by kernel_rfl)(hsz:c.size=cs.size:=by kernel_rfl)(h1:cs.all (·.oneCell')=true:=by kernel_rfl)(him:(m == i)=false:=by rfl)(hg:o.guard=none:=by rfl):Go2 P ops a0 w0 F (k+1) i rp :=
 Go2.storeOwn ho hg (nth_mem hm) _ (fun u μ ρ b H h0 hB hb=>by
  obtain⟨e1,e2⟩:=h H
  rw [h0] at e1
  refine⟨μ.setRow b cs,ex_store_row ty _ _ hop e1 e2 hb hi hsz h1,fun g=>⟨b,?_,hB,setRow_at hb⟩,setRow_only _ _ _⟩
  rw [upd_other _ _ (by simpa using him)];exact h0) rest
theorem Rgn.Go2.sz(ho:ops[i]? = some o)(q:Nat){z:Nat}{old cs:Array Value}{T ty:TypeId}{x y:Operand}(B:w0.heap[z]? = some (.cells old T (0,0)))(hz:z<B0)(hx:∀ (y i:Nat),olds[y]? = some (z,i)→y=q)(h:∀ {u w ρ},Here2 ops a0 olds w0 rp i u w ρ→ρ x=pt z∧ρ y=.agg cs)(rest:Go2 P ops a0 w0 F k (i+1) ((i,.op none (.old q z [] (fun _=>cs) T (fun _ _ _=>rfl) hz hx))::rp))(hq:olds[q]? = some (z,i):=by rfl)(hop:o.op=.store ty x y:=by rfl)(hl:Loc T=true:=by kernel_rfl)(hi:(P.info? ty).map (·.size)=some cs.size:=by kernel_rfl)(hsz:old.size=cs.size:=by kernel_rfl)(h1:cs.all (·.oneCell')=true:=by kernel_rfl)(hg:o.guard=none:=by rfl):Go2 P ops a0 w0 F (k+1) i rp :=
 Go2.storeOld q z ho hg hq ⟨_,_,_,B,hl⟩ _ (fun u μ ρ H=>by
  obtain⟨e1,e2⟩:=h H
  have hb:=H.blkOld B q i hq (.inl rfl)
  exact⟨μ.setRow z cs,ex_store_row ty _ _ hop e1 e2 hb hi hsz h1,fun g=>setRow_at hb,setRow_only _ _ _⟩) rest
theorem Rgn.Go2.sp(ho:ops[i]? = some o)(q:Nat){z off:Nat}{old cs:Array Value}(vs:Array Value){T ty:TypeId}{x y:Operand}(B:w0.heap[z]? = some (.cells old T (0,0)))(hz:z<B0)(hx:∀ (y i:Nat),olds[y]? = some (z,i)→y=q)(h:∀ {u w ρ},Here2 ops a0 olds w0 rp i u w ρ→ρ x=.pointer (some ⟨z,off,none⟩)∧ρ y=.agg cs)(rest:Go2 P ops a0 w0 F k (i+1) ((i,.op none (.old q z [] (fun _=>vs) T (fun _ _ _=>rfl) hz hx))::rp))(hq:olds[q]? = some (z,i):=by rfl)(hop:o.op=.store ty x y:=by rfl)(hl:Loc T=true:=by kernel_rfl)(hi:(P.info? ty).map (·.size)=some cs.size:=by kernel_rfl)(hsz:(off+cs.size).ble old.size=true:=by kernel_rfl)(h1:cs.all (·.oneCell')=true:=by kernel_rfl)(hv:(old.toList.take (off+0)++cs.toList++old.toList.drop (off+0+cs.toList.length)).toArray=vs:=by kernel_rfl)(hg:o.guard=none:=by rfl):Go2 P ops a0 w0 F (k+1) i rp :=
 Go2.storeOld q z ho hg hq ⟨_,_,_,B,hl⟩ _ (fun u μ ρ H=>by
  obtain⟨e1,e2⟩:=h H
  have hb:=H.blkOld B q i hq (.inl rfl)
  exact⟨μ.setRow z vs,ex_store_part ty _ _ hop e1 e2 hb hi (Nat.le_of_ble_eq_true hsz) h1 hv,fun g=>setRow_at hb,setRow_only _ _ _⟩) rest
theorem Rgn.Go2.mo(ho:ops[i]? = some o)(j:Nat){t m:Nat}{φ:VP}(rest:Go2 P ops a0 w0 F k (i+1) ((i,.op none (.own i m φ))::rp))(hop:o.op=.move (.tmp t)∨o.op=.assign (.tmp t):=by first|exact .inl rfl|exact .inr rfl)(hm:nth rp (i-1-j)=some (j,.op (some m) (.own j m φ))∨nth rp (i-1-j)=some (j,.op none (.own j m φ)):=by first|exact .inl rfl|exact .inr rfl)(hs:dstIdx ops t=some j:=by kernel_rfl)(hb:pre ops i j=true:=by kernel_rfl)(h1:(i == j||i == m)=false:=by rfl)(h2:(j == m)=false:=by rfl)(hg:Gd2 ops a0 w0 rp i o:=by exact G0 rfl):Go2 P ops a0 w0 F (k+1) i rp :=
 Go2.fn ho hg (.own i m φ) (fun u w ρ H=>by
  have f:(SP.own (B0:=B0) (R0:=R0) (olds:=olds) j m φ).p u w:=by
   rcases hm with hm|hm
   ·exact H.f (nth_mem hm) hb
   ·exact H.f (nth_mem hm) hb
  refine⟨(u j).v,?_,Own.keep h1 h2 f⟩
  rcases hop with hop|hop
  ·exact x_mv (H.r t j hs) hop
  ·exact x_as (H.r t j hs) hop) rest
theorem Rgn.Go2.mn(ho:ops[i]? = some o)(j:Nat)(near:List Nat){t:Nat}{near': List Nat}{φ:VP}(rest:Go2 P ops a0 w0 F k (i+1) ((i,.op none (.val i near φ))::rp))(hop:o.op=.move (.tmp t)∨o.op=.assign (.tmp t):=by first|exact .inl rfl|exact .inr rfl)(hm:nth rp (i-1-j)=some (j,.op none (.val j near' φ)):=by rfl)(hs:dstIdx ops t=some j:=by kernel_rfl)(hb:pre ops i j=true:=by kernel_rfl)(h1:(near'.contains i||(j == i)||near.contains i)=false:=by rfl)(h2:(j::near').all (fun x=>near.contains x)=true:=by rfl)(hg:Gd2 ops a0 w0 rp i o:=by exact G0 rfl):Go2 P ops a0 w0 F (k+1) i rp :=
 Go2.fn ho hg (.val i near φ) (fun u w ρ H=>by
  refine⟨(u j).v,?_,SP.keep h1 h2 (H.f (nth_mem hm) hb)⟩
  rcases hop with hop|hop
  ·exact x_mv (H.r t j hs) hop
  ·exact x_as (H.r t j hs) hop) rest
theorem Rgn.Go2.cK(ho:ops[i]? = some o){f:FuncId}{fn:Func}{xs:Array Operand}{ats:Array TypeId}{V:Value}(hfn:P.funcs[f]? = some fn)(h:∀ {u w ρ},Here2 ops a0 olds w0 rp i u w ρ→∃ args,xs.map ρ=args∧Calls P f args w (RetV V w))(rest:Go2 P ops a0 w0 F k (i+1) ((i,.op none (.eq i V))::rp))(hop:o.op=.call { callee:=.value (.func f),args:=xs,argTypes:=ats }:=by rfl)(hn:(fn.name == "runtime.NumGoroutine")=false:=by kernel_rfl)(hb:fn.body.isNone=false:=by kernel_rfl)(hg:Gd2 ops a0 w0 rp i o:=by exact G0 rfl):Go2 P ops a0 w0 F (k+1) i rp :=
 Go2.callK ho hg (fun u w ρ H=>by obtain⟨args,h1,h2⟩:=h H;exact⟨args,ex_call hop (H.func f) hfn hn hb h1,h2⟩) rest
theorem Rgn.Go2.cO(ho:ops[i]? = some o)(m:Nat){c:Array Value}{T:TypeId}{φ:VP}{f:FuncId}{fn:Func}{xs:Array Operand}{ats:Array TypeId}(hfn:P.funcs[f]? = some fn)(h:∀ {u w ρ b},Here2 ops a0 olds w0 rp i u w ρ→(u m).v=pt b→w.heap[b]? = some (.cells c T (0,0))→∃ args,xs.map ρ=args∧Calls P f args w (RetOwn b φ w))(rest:Go2 P ops a0 w0 F k (i+1) ((i,.op (some m) (.own i m φ))::rp))(hm:nth rp (i-1-m)=some (m,.alloc c T):=by rfl)(him:(i == m)=false:=by rfl)(hop:o.op=.call { callee:=.value (.func f),args:=xs,argTypes:=ats }:=by rfl)(hn:(fn.name == "runtime.NumGoroutine")=false:=by kernel_rfl)(hb:fn.body.isNone=false:=by kernel_rfl)(hg:o.guard=none:=by rfl):Go2 P ops a0 w0 F (k+1) i rp :=
 Go2.callO ho hg (nth_mem hm) him φ (fun u w ρ b H h1 h2=>by obtain⟨args,h3,h4⟩:=h H h1 h2;exact⟨args,ex_call hop (H.func f) hfn hn hb h3,h4⟩) rest
end
theorem Rgn.Go2.cR{k i:Nat}{rp:List (Nat×Pl w0.heap.size R0 olds)}{o:Oper}(ho:ops[i]? = some o)(near:List Nat){φ:VP}{f:FuncId}{fn:Func}{xs:Array Operand}{ats:Array TypeId}(hfn:P.funcs[f]? = some fn)(h:∀ {u w ρ},Here2 ops a0 olds w0 rp i u w ρ→∃ args,xs.map ρ=args∧Calls P f args w (Ret φ (Settled R0 w0.heap.size near u) w))(rest:Go2 P ops a0 w0 F0 k (i+1) ((i,.op none (.val i near φ))::rp))(hc:near.contains i=false:=by rfl)(hop:o.op=.call { callee:=.value (.func f),args:=xs,argTypes:=ats }:=by rfl)(hn:(fn.name == "runtime.NumGoroutine")=false:=by kernel_rfl)(hb:fn.body.isNone=false:=by kernel_rfl)(hg:Gd2 ops a0 w0 rp i o:=by exact G0 rfl):Go2 P ops a0 w0 F0 (k+1) i rp :=
 Go2.callR ho hg near hc φ (fun u w ρ H=>by obtain⟨args,h1,h2⟩:=h H;exact⟨args,ex_call hop (H.func f) hfn hn hb h1,h2⟩) rest
section
variable {k i:Nat} {F1:List (Pl w0.heap.size R0 [])→Prop} {rp:List (Nat×Pl w0.heap.size R0 [])} {o:Oper} {ty T g off t:Nat} {cs:Array Value} {f:Nat×Nat}
theorem Rgn.Go2.lc(ho:ops[i]? = some o)(j:Nat){V:Value}(B:w0.heap[g]? = some (.cells cs T f))(rest:Go2 P ops a0 w0 F1 k (i+1) ((i,.op none (.eq i V))::rp))(hop:o.op=.load ty (.tmp t):=by rfl)(hm:nth rp (i-1-j)=some (j,.op none (.eq j (.pointer (some ⟨g,off,none⟩)))):=by rfl)(hv:nth cs.toList off=some V:=by rfl)(hd:cellB P ty=true:=by kernel_rfl)(hs:dstIdx ops t=some j:=by kernel_rfl)(hb:pre ops i j=true:=by kernel_rfl)(hg:Gd2 ops a0 w0 rp i o:=by exact G0 rfl):Go2 P ops a0 w0 F1 (k+1) i rp :=
 Go2.eq ho hg (fun _ _ _ H=>x_ldc (H.g t j hm hs hb) (H.b B) hop hd hv) rest
theorem Rgn.Go2.lp(ho:ops[i]? = some o)(j:Nat)(vs:Array Value)(B:w0.heap[g]? = some (.cells cs T f))(rest:Go2 P ops a0 w0 F1 k (i+1) ((i,.op none (.eq i (.agg vs)))::rp))(hop:o.op=.load ty (.tmp t):=by rfl)(hm:nth rp (i-1-j)=some (j,.op none (.eq j (.pointer (some ⟨g,off,none⟩)))):=by rfl)(hi:(P.info? ty).map (·.size)=some vs.size:=by kernel_rfl)(hn:(off+vs.size).ble cs.size=true:=by kernel_rfl)(hv:cs.extract off (off+vs.size)=vs:=by kernel_rfl)(hd:aggB P ty=true:=by kernel_rfl)(hs:dstIdx ops t=some j:=by kernel_rfl)(hb:pre ops i j=true:=by kernel_rfl)(hg:Gd2 ops a0 w0 rp i o:=by exact G0 rfl):Go2 P ops a0 w0 F1 (k+1) i rp :=
 Go2.eq ho hg (fun _ _ _ H=>x_ldp (H.g t j hm hs hb) (H.b B) hop hd hi hn hv) rest
theorem Rgn.Go2.lr(ho:ops[i]? = some o)(t:Nat)(hz:a0.tmps.getD t undef=.pointer (some ⟨g,0,none⟩))(B:w0.heap[g]? = some (.cells cs T f))(rest:Go2 P ops a0 w0 F1 k (i+1) ((i,.op none (.eq i (.agg cs)))::rp))(hop:o.op=.load ty (.tmp t):=by rfl)(hi:(P.info? ty).map (·.size)=some cs.size:=by kernel_rfl)(hd:aggB P ty=true:=by kernel_rfl)(hs:dstIdx ops t=none:=by kernel_rfl)(hg:Gd2 ops a0 w0 rp i o:=by exact G0 rfl):Go2 P ops a0 w0 F1 (k+1) i rp :=
 Go2.eq ho hg (fun _ _ _ H=>x_ldr (H.z t hz hs) (H.b B) hop hd hi) rest
end
theorem Rgn.Here2.b1{z j:Nat}{rp:List (Nat×Pl w0.heap.size R0 [(z,j)])}{i:Nat}{u:Nat→Got}{w:World}{ρ:Operand→Value}(h:Here2 ops a0 [(z,j)] w0 rp i u w ρ){k:Nat}{o:Obj}(hk:w0.heap[k]? = some o)(hn:z≠k):w.heap[k]? = some o:=h.blk hk (Nat.le_refl _) (no_cons hn (no_nil _))
theorem Rgn.one_inj{z j:Nat}:∀ (y i:Nat),[(z,j)][y]? = some (z,i)→y=0:=fun y i h=>by
 match y,h with
 | 0,_=>rfl
section
variable {n:Nat} {rp:List (Nat×Pl B0 R0 olds)} {u:Nat→Got} {w:World} (h:Done2 ops a0 w0 n rp u w)
include h
theorem Rgn.Done2.a(j:Nat){p:Pl B0 R0 olds}(hm:nth rp (n-1-j)=some (j,p):=by rfl):p.fact j u w:=h.f (nth_mem hm)
theorem Rgn.Done2.nw(m:Nat){c:Array Value}{T:TypeId}(hm:nth rp (n-1-m)=some (m,.alloc c T):=by rfl)(hi:idleB (toPlan rp) m=true:=by kernel_rfl):∃ b,(u m).v=pt b∧B0≤b∧w.heap[b]? = some (.cells c T (0,0)):=by
 obtain⟨b,h1,h2,h3⟩:=h.new (nth_mem hm) hi
 exact⟨b,congrArg Got.v h1,h2,h3⟩
theorem Rgn.Done2.st(j:Nat){m:Nat}{cs:Array Value}{T:TypeId}{l}(hm:nth rp (n-1-j)=some (j,.op (some m) (.cells m [] (fun _=>cs) T l)):=by rfl):∃ b,(u m).v=pt b∧B0≤b∧w.heap[b]? = some (.cells cs T (0,0)):=h.f (nth_mem hm)
theorem Rgn.Done2.ow(j:Nat){o:Option Nat}{m:Nat}{φ:VP}(hm:nth rp (n-1-j)=some (j,.op o (.own j m φ)):=by rfl):∃ b,(u j).v=pt b∧B0≤b∧φ.p (·=b) (pt b) w:=by
 obtain⟨h1,b,h2,h3,h4⟩:(SP.own (B0:=B0) (R0:=R0) (olds:=olds) j m φ).p u w:=h.f (nth_mem hm)
 exact⟨b,h1.trans h2,h3,h4⟩
end
structure Rgn.DoneK (m:Nat) (ops:Array Oper) (a0:Act) (w0:World) (n:Nat) (rp:List (Nat×Pl w0.heap.size R0 olds)) (u:Nat→Got) (w:World):Prop where
 d:Done2 ops a0 w0 n rp u w
 le:m≤w0.heap.size
section
variable {m0 n:Nat} {rp:List (Nat×Pl w0.heap.size R0 olds)} {u:Nat→Got} {w:World} (h:DoneK m0 ops a0 w0 n rp u w)
include h
theorem Rgn.DoneK.a(j:Nat){p:Pl w0.heap.size R0 olds}(hm:nth rp (n-1-j)=some (j,p):=by rfl):p.fact j u w:=h.d.f (nth_mem hm)
theorem Rgn.DoneK.q(j:Nat){V:Value}(hm:nth rp (n-1-j)=some (j,.op none (.eq j V)):=by rfl):(u j).v=V:=h.d.f (nth_mem hm)
theorem Rgn.DoneK.nw(m:Nat){c:Array Value}{T:TypeId}(hm:nth rp (n-1-m)=some (m,.alloc c T):=by rfl)(hi:idleB (toPlan rp) m=true:=by kernel_rfl):∃ b,(u m).v=pt b∧m0≤b∧w.heap[b]? = some (.cells c T (0,0)):=by
 obtain⟨b,h1,h2,h3⟩:=h.d.nw m hm hi
 exact⟨b,h1,Nat.le_trans h.le h2,h3⟩
theorem Rgn.DoneK.st(j:Nat){m:Nat}{cs:Array Value}{T:TypeId}{l}(hm:nth rp (n-1-j)=some (j,.op (some m) (.cells m [] (fun _=>cs) T l)):=by rfl):∃ b,(u m).v=pt b∧m0≤b∧w.heap[b]? = some (.cells cs T (0,0)):=by
 obtain⟨b,h1,h2,h3⟩:=h.d.st j hm
 exact⟨b,h1,Nat.le_trans h.le h2,h3⟩
theorem Rgn.DoneK.ow(j:Nat){o:Option Nat}{m:Nat}{φ:VP}(hm:nth rp (n-1-j)=some (j,.op o (.own j m φ)):=by rfl):∃ b,(u j).v=pt b∧m0≤b∧φ.p (·=b) (pt b) w:=by
 obtain⟨b,h1,h2,h3⟩:=h.d.ow j hm
 exact⟨b,h1,Nat.le_trans h.le h2,h3⟩
theorem Rgn.DoneK.ol(j:Nat){q z:Nat}{cs:Array Value}{T:TypeId}{l hz hx}(hm:nth rp (n-1-j)=some (j,.op none (.old q z [] (fun _=>cs) T l hz hx)):=by rfl):w.heap[z]? = some (.cells cs T (0,0)):=h.d.f (nth_mem hm)
theorem Rgn.DoneK.n1(m:Nat){c:Array Value}{T:TypeId}{k b:Nat}(hk:k<w0.heap.size)(hb:(u m).v=pt b)(hm:nth rp (n-1-m)=some (m,.alloc c T):=by rfl):k≠b:=by
 obtain⟨b', h1,h2,_⟩:=h.d.f (nth_mem hm)
 rw [h1] at hb;cases hb
 exact Nat.ne_of_lt (Nat.lt_of_lt_of_le hk h2)
theorem Rgn.DoneK.lo(m:Nat){c:Array Value}{T:TypeId}{b:Nat}(hb:(u m).v=pt b)(hm:nth rp (n-1-m)=some (m,.alloc c T):=by rfl):w0.heap.size≤b:=by
 obtain⟨b', h1,h2,_⟩:=h.d.f (nth_mem hm)
 rw [h1] at hb;cases hb;exact h2
theorem Rgn.DoneK.n2(i j:Nat){c c': Array Value}{T T': TypeId}{b d:Nat}(hb:(u i).v=pt b)(hc:(u j).v=pt d)(hp:nth rp (n-1-i)=some (i,.alloc c T):=by rfl)(hq:nth rp (n-1-j)=some (j,.alloc c' T'):=by rfl)(hij:(i == j)=false:=by rfl):b≠d:=h.d.ne (nth_mem hp) (nth_mem hq) hij hb hc
theorem Rgn.DoneK.kk{k:Nat}{o:Obj}(hk:w0.heap[k]? = some o)(hno:∀ (x i:Nat),olds[x]? ≠ some (k,i)):w.heap[k]? = some o:=h.d.base.keep hk hno
theorem Rgn.DoneK.o{φ:VP}{b:Nat}{v:Value}(hb:R0 b)(h0:φ.p (·=b) v w0):φ.p (·=b) v w:=h.d.base.one φ hb h0
theorem Rgn.DoneK.gr(φ:VP){v:Value}(h0:φ.p R0 v w0):φ.p R0 v w:=φ.grow h.d.base.growAll h0
end
section
variable {m0 n:Nat} {u:Nat→Got} {w:World}
theorem Rgn.DoneK.rr{S:Nat→Prop}{W:World}{rp:List (Nat×Pl w0.heap.size (Amb S W) olds)}(h:DoneK W.heap.size ops a0 w0 n rp u w)(i:Nat){near:List Nat}{φ:VP}(hm:nth rp (n-1-i)=some (i,.op none (.val i near φ)):=by rfl):φ.p (Amb S W) (u i).v w :=
 h.d.r (nth_mem hm) (fun _ hk=>hk.elim (fun h=>h.1) (fun h2=>.inr (Nat.le_trans h.le h2)))
theorem Rgn.DoneK.rz{z:Nat}{S:Nat→Prop}{W:World}{rp:List (Nat×Pl w0.heap.size (fun k=>Amb S W k∧k≠z) olds)}(h:DoneK W.heap.size ops a0 w0 n rp u w)(i:Nat){near:List Nat}{φ:VP}(hm:nth rp (n-1-i)=some (i,.op none (.val i near φ)):=by rfl):φ.p (Amb S W) (u i).v w :=
 h.d.r (nth_mem hm) (fun _ hk=>hk.elim (fun h=>h.1.1) (fun h2=>.inr (Nat.le_trans h.le h2)))
theorem Rgn.DoneK.k{rp:List (Nat×Pl w0.heap.size R0 [])}(h:DoneK m0 ops a0 w0 n rp u w){k:Nat}{o:Obj}(hk:w0.heap[k]? = some o):w.heap[k]? = some o:=h.d.base.keep0 hk
theorem Rgn.DoneK.k1{z j:Nat}{rp:List (Nat×Pl w0.heap.size R0 [(z,j)])}(h:DoneK m0 ops a0 w0 n rp u w){k:Nat}{o:Obj}(hk:w0.heap[k]? = some o)(hn:z≠k):w.heap[k]? = some o:=h.d.base.keep hk (no_cons hn (no_nil _))
end
section
variable {m0 n:Nat} {X K:Act→World→Prop} {W:World}
theorem Rgn.Go2.dk{rp:List (Nat×Pl w0.heap.size R0 [])}(A:(Nat→Got)→List Value)(hK:∀ a w,X a w→K a w)(hb:Below W.heap.size W w0)(h:∀ u w,DoneK W.heap.size ops a0 w0 n rp u w→Below W.heap.size W w→X (fr (A u)) w)(hA:∀ u,fill ops u ops.size a0=fr (A u):=by intro u;kernel_rfl)(hok:okB ops ws (toPlan rp)=true:=by kernel_rfl):Go2 P ops a0 w0 (Todo P ops (Exit.then K Q) w0.heap.size R0 [] ws a0 w0 0) 0 n rp:=Go2.done (fun u=>fr (A u)) hA hok (fun u w D=>hK _ _ (h u w ⟨D,hb.size⟩ (D.base.bel0 hb hb.size)))
theorem Rgn.Go2.d1{z j:Nat}{rp:List (Nat×Pl w0.heap.size R0 [(z,j)])}(A:(Nat→Got)→List Value)(hK:∀ a w,X a w→K a w)(hb:Below W.heap.size W w0)(hz:W.heap.size≤z)(h:∀ u w,DoneK W.heap.size ops a0 w0 n rp u w→Below W.heap.size W w→X (fr (A u)) w)(hA:∀ u,fill ops u ops.size a0=fr (A u):=by intro u;kernel_rfl)(hok:okB ops ws (toPlan rp)=true:=by kernel_rfl):Go2 P ops a0 w0 (Todo P ops (Exit.then K Q) w0.heap.size R0 [(z,j)] ws a0 w0 0) 0 n rp:=Go2.done (fun u=>fr (A u)) hA hok (fun u w D=>hK _ _ (h u w ⟨D,hb.size⟩ (D.base.bel hb hb.size (fun p hp=>by simp only [List.mem_singleton] at hp;subst hp;exact hz))))
theorem Rgn.Go2.dg{rp:List (Nat×Pl w0.heap.size R0 olds)}(A:(Nat→Got)→List Value)(hK:∀ a w,X a w→K a w)(hb:m0≤w0.heap.size)(h:∀ u w,DoneK m0 ops a0 w0 n rp u w→X (fr (A u)) w)(hA:∀ u,fill ops u ops.size a0=fr (A u):=by intro u;kernel_rfl)(hok:okB ops ws (toPlan rp)=true:=by kernel_rfl):Go2 P ops a0 w0 (Todo P ops (Exit.then K Q) w0.heap.size R0 olds ws a0 w0 0) 0 n rp:=Go2.done (fun u=>fr (A u)) hA hok (fun u w D=>hK _ _ (h u w ⟨D,hb⟩))
theorem Rgn.Go2.dd{rp:List (Nat×Pl w0.heap.size R0 olds)}(A:(Nat→Got)→Act)(hb:m0≤w0.heap.size)(h:∀ u w,DoneK m0 ops a0 w0 n rp u w→Q .normal (A u) w)(hA:∀ u,fill ops u ops.size a0=A u:=by intro u;kernel_rfl)(hok:okB ops ws (toPlan rp)=true:=by kernel_rfl):Go2 P ops a0 w0 (Todo P ops Q w0.heap.size R0 olds ws a0 w0 0) 0 n rp:=Go2.done A hA hok (fun u w D=>h u w ⟨D,hb⟩)
theorem Rgn.Go2.dT{m:Nat}{rp:List (Nat×Pl w0.heap.size R0 olds)}(A:(Nat→Got)→List Value)(hb:m0≤w0.heap.size)(tail:List Oper)(htail:ops.toList.drop n=tail)(h:∀ u w,DoneK m0 ops a0 w0 n rp u w→wpList P ops Q tail (fr (A u)) w)(hA:∀ u,(∀ t,n≤t→u t=start ops a0 t)→fill ops u ops.size a0=fr (A u):=by intro u h;kernel_rfl)(hok:okB ops ws (toPlan rp++List.replicate m (.op none ⟨fun _ _=>True,[],[],[],[],fun _ _ _ _ _=>trivial,fun _ _ _ _ _=>trivial⟩))=true:=by kernel_rfl):Go2 P ops a0 w0 (TodoT P ops Q w0.heap.size R0 olds ws a0 w0 m 0) 0 n rp:=Go2.doneT (fun u=>fr (A u)) hA hok tail htail (fun u w D=>h u w ⟨D,hb⟩)
end
section
variable {id:Nat} {c:Code}
theorem Rgn.gd(n:Nat)(R0:Nat→Prop)(h:∀ K:Act→World→Prop,(∀ a w,c.wp P Q a w→K a w)→Go2 P ops a0 w0 (Todo P ops (Exit.then K Q) w0.heap.size R0 [] [] a0 w0 0) n 0 [])(hm:P.follows .mixedOrders=true:=by kernel_rfl)(hn:ops.size=n:=by rfl)(hin:inB ops a0=true:=by kernel_rfl):(Code.seq (Code.region id ops true) c).wp P Q a0 w0:=wp_seq_k fun K hK=>go2_drawn hm n hn R0 [] [] (Olds.nil _) hin (h K hK)
theorem Rgn.gs(n:Nat)(R0:Nat→Prop)(h:∀ K:Act→World→Prop,(∀ a w,c.wp P Q a w→K a w)→Go2 P ops a0 w0 (Todo P ops (Exit.then K Q) w0.heap.size R0 [] [] a0 w0 0) n 0 [])(hn:ops.size=n:=by rfl)(hin:inB ops a0=true:=by kernel_rfl):(Code.seq (Code.region id ops false) c).wp P Q a0 w0:=wp_seq_k fun K hK=>go2_seq n hn R0 [] [] (Olds.nil _) hin (h K hK)
theorem Rgn.gd1(n:Nat)(R0:Nat→Prop)(j:Nat){z:Nat}{o:Obj}(hz:w0.heap[z]? = some o)(h:∀ K:Act→World→Prop,(∀ a w,c.wp P Q a w→K a w)→Go2 P ops a0 w0 (Todo P ops (Exit.then K Q) w0.heap.size R0 [(z,j)] [j] a0 w0 0) n 0 [])(hm:P.follows .mixedOrders=true:=by kernel_rfl)(hn:ops.size=n:=by rfl)(hin:inB ops a0=true:=by kernel_rfl):(Code.seq (Code.region id ops true) c).wp P Q a0 w0:=wp_seq_k fun K hK=>go2_drawn hm n hn R0 _ _ (Olds.one (lt_of hz)) hin (h K hK)
theorem Rgn.gs1(n:Nat)(R0:Nat→Prop)(j:Nat){z:Nat}{o:Obj}(hz:w0.heap[z]? = some o)(h:∀ K:Act→World→Prop,(∀ a w,c.wp P Q a w→K a w)→Go2 P ops a0 w0 (Todo P ops (Exit.then K Q) w0.heap.size R0 [(z,j)] [j] a0 w0 0) n 0 [])(hn:ops.size=n:=by rfl)(hin:inB ops a0=true:=by kernel_rfl):(Code.seq (Code.region id ops false) c).wp P Q a0 w0:=wp_seq_k fun K hK=>go2_seq n hn R0 _ _ (Olds.one (lt_of hz)) hin (h K hK)
end
section
variable {k i:Nat} {z:Nat} {F1:List (Pl w0.heap.size R0 [(z,i)])→Prop} {rp:List (Nat×Pl w0.heap.size R0 [(z,i)])} {o:Oper} {old cs:Array Value} {T ty:TypeId} {x y:Operand}
theorem Rgn.Go2.s1(ho:ops[i]? = some o)(B:w0.heap[z]? = some (.cells old T (0,0)))(h:∀ {u w ρ},Here2 ops a0 [(z,i)] w0 rp i u w ρ→ρ x=pt z∧ρ y=.agg cs)(rest:Go2 P ops a0 w0 F1 k (i+1) ((i,.op none (.old 0 z [] (fun _=>cs) T (fun _ _ _=>rfl) (lt_of B) one_inj))::rp))(hop:o.op=.store ty x y:=by rfl)(hl:Loc T=true:=by kernel_rfl)(hi:(P.info? ty).map (·.size)=some cs.size:=by kernel_rfl)(hsz:old.size=cs.size:=by kernel_rfl)(h1:cs.all (·.oneCell')=true:=by kernel_rfl)(hg:o.guard=none:=by rfl):Go2 P ops a0 w0 F1 (k+1) i rp :=
 Go2.sz ho 0 B (lt_of B) one_inj h rest rfl hop hl hi hsz h1 hg
end
end
section
variable {P:Program} {fn:Func} {W w:World} {tmps:Array Value} {V v v' : Value} {p q ty ty' g g' : Nat} {t t' : TypeId} {cs cs' : Array Value} {fr' fr'' : Nat×Nat}
theorem b0(W:World):Below W.heap.size W W:=Below.refl _ _
theorem rt(hf:fn.results=#[.tmp p])(h:tmps.getD p undef=v)(hv:v=V)(hb:Below W.heap.size W w):bodyPost P fn (RetV V W) .ret ⟨tmps,[]⟩ w :=
 ret_ok rfl (results_tmp' hf h) (RetV.mk (congrArg Ending.returned hv) hb)
theorem rr(hf:fn.results=#[.cell p ty])(h:tmps.getD p undef=pt g)(hB:w.heap[g]? = some (.cells cs t fr'))(hv:Value.agg cs=V)(hb:Below W.heap.size W w)(hd:aggB P ty=true:=by kernel_rfl)(hi:(P.info? ty).map (·.size)=some cs.size:=by kernel_rfl):bodyPost P fn (RetV V W) .ret ⟨tmps,[]⟩ w:=by
 obtain⟨d,h1,h2⟩:=aggB_ex hd
 exact ret_ok rfl (results_row hf h hB h1 (by cases d<;>first|rfl|cases h2) hi) (RetV.mk (congrArg Ending.returned hv) hb)
end
theorem nb{w:World}{k b:Nat}{o:Obj}(h:w.heap[k]? = some o)(hb:w.heap.size≤b):k≠b:=Nat.ne_of_lt (Nat.lt_of_lt_of_le (lt_of h) hb)
end Go.Proofs.YtcdbmjnipaochaaGreat
namespace Go.Proofs.YtcdbmjnipaochaaGreat
open Go.RowKit Rgn
variable {S:Nat→Prop} {W:World}
theorem rTimes(x y:Int)(p0:hi x+hi y≤1099511627776):Calls Tryz.prog 162 #[wV x,wV y] W (RetV (wV (x*y)) W):=by
 have q0:=hi_bl x
 have q1:=hi_bl y
 have q2:=bl_mul x.natAbs y.natAbs
 have bel:=b0 W
 go_enter Tryz.func162,Tryz.ntmps162
 refine gs 3 (Amb Z0 W) fun _ K1=>?_
 refine .bx rfl (fun H=>H.v 0 (wV x)) ?_
 refine .bx rfl (fun H=>H.v 1 (wV y)) ?_
 refine .al rfl zW ?_
 refine .dk (fun u=>wV x::wV y::sq u 0 3 (us 13)) K1 bel fun u1 w1 D bel=>?_
 obtain⟨b2,E1_0,A2,B2⟩:=D.nw 0
 obtain⟨b3,E1_1,A3,B3⟩:=D.nw 1
 obtain⟨b4,E1_2,A4,B4⟩:=D.nw 2
 have N2_4:=D.n2 0 2 E1_0 E1_2
 have N3_4:=D.n2 1 2 E1_1 E1_2
 clear D
 refine gd1 14 (Amb Z0 W) 13 B4 fun _ K5=>?_
 refine .fz rfl 2 0 E1_0 ?_
 refine .e rfl (V:=.bool (decide (x<0))) (fun H=>x_ldc (H.g 5 0) (H.b1 B2 (Ne.symm N2_4))) ?_
 refine .fz rfl 3 0 E1_1 ?_
 refine .e rfl (V:=.bool (decide (y<0))) (fun H=>x_ldc (H.g 7 2) (H.b1 B3 (Ne.symm N3_4))) ?_
 refine .e rfl (V:=.bool ((decide (x<0)) != (decide (y<0)))) (fun H=>x_bne (H.g 6 1) (H.g 8 3)) ?_
 refine .fz rfl 2 1 E1_0 ?_
 refine .e rfl (V:=.string (bS x.natAbs)) (fun H=>x_ldc (H.g 10 5) (H.b1 B2 (Ne.symm N2_4))) ?_
 refine .cR rfl [] Tryz.func266 (fun H=>⟨_,ar1 (H.g 11 6),gWords _ (by omega)⟩) ?_
 refine .fz rfl 3 1 E1_1 ?_
 refine .e rfl (V:=.string (bS y.natAbs)) (fun H=>x_ldc (H.g 13 8) (H.b1 B3 (Ne.symm N3_4))) ?_
 refine .cR rfl [] Tryz.func266 (fun H=>⟨_,ar1 (H.g 14 9),gWords _ (by omega)⟩) ?_
 refine .cR rfl [7,10] Tryz.func265 (fun H=>⟨_,ar2 (H.r 12 7) (H.r 15 10),gProduct _ _ (SV.sub [7,10] (H.a 7 rfl) rfl) (SV.sub [7,10] (H.a 10 rfl) rfl) (by omega) (by omega)⟩) ?_
 refine .cK rfl Tryz.func264 (fun H=>⟨_,ar2 (H.g 9 4) (H.r 16 11),gMadeZ _ _ (SV.any (H.a 11 rfl)) (by omega)⟩) ?_
 refine .s1 rfl B4 (fun H=>⟨H.z 4 E1_2,H.g 17 12⟩) ?_
 refine .d1 (fun u=>wV x::wV y::sq u1 0 3 (sq u 0 13 [])) K5 bel A4 fun u2 w2 D bel=>?_
 replace B4:=D.ol 13
 clear D
 exact wp_ret (rr rfl E1_2 B4 (wh_eq (sgn_times x y)) bel)
theorem rNeg(x:Int):Calls Tryz.prog 268 #[wV x] W (RetV (wV (-x)) W):=by
 have bel:=b0 W
 go_enter Tryz.func268,Tryz.ntmps268
 rcases Bool.eq_false_or_eq_true (decide (x<0)) with c1|c1
 ·
  have dc1:=of_decide_eq_true c1
  have S0:(wV x:Value)=.agg #[.bool true,.string (bS x.natAbs)]:=by simp only [wV,wC,c1]
  rcases Bool.eq_false_or_eq_true (decide (x.natAbs=0)) with c2|c2
  ·
   have dc2:=of_decide_eq_true c2
   refine gs 2 (Amb Z0 W) fun _ K3=>?_
   refine .bx rfl (fun H=>H.z 0 S0) ?_
   refine .al rfl zW ?_
   refine .dk (fun u=>wV x::u 0::u 1::us 11) K3 bel fun u1 w1 D bel=>?_
   obtain⟨b4,E1_0,A4,B4⟩:=D.nw 0
   obtain⟨b5,E1_1,A5,B5⟩:=D.nw 1
   have N4_5:=D.n2 0 1 E1_0 E1_1
   clear D
   refine gs1 12 (Amb Z0 W) 11 B5 fun _ K6=>?_
   refine .fz rfl 1 0 E1_0 ?_
   refine .e rfl (V:=.bool true) (fun H=>x_ldc (H.g 3 0) (H.b1 B4 (Ne.symm N4_5))) ?_
   refine .e rfl (V:=.bool false) (fun H=>x_not (H.g 4 1)) ?_
   refine .mv rfl 2 ?_
   refine .sk rfl 3 ?_
   refine .sk rfl 3 ?_
   refine .sk rfl 3 ?_
   refine .e rfl (fun H=>x_pkF (H.g 6 3) (H.c _)) ?_
   refine .fz rfl 1 1 E1_0 ?_
   refine .e rfl (V:=.string (bS x.natAbs)) (fun H=>x_ldc (H.g 11 8) (H.b1 B4 (Ne.symm N4_5))) ?_
   refine .e rfl (V:=.agg #[.bool false,.string (bS x.natAbs)]) (fun H=>by have e10:=H.g 10 7;have e12:=H.g 12 9;clear H;go_simp) ?_
   refine .s1 rfl B5 (fun H=>⟨H.z 2 E1_1,H.g 13 10⟩) ?_
   refine .d1 (fun u=>wV x::u1 0::u1 1::sq u 0 11 []) K6 bel A5 fun u2 w2 D bel=>?_
   replace B5:=D.ol 11
   clear D
   exact wp_ret (rr rfl E1_1 B5 (neg_w1 (of_decide_eq_true c1)) bel)
  ·
   have dc2:=of_decide_eq_false c2
   refine gs 2 (Amb Z0 W) fun _ K7=>?_
   refine .bx rfl (fun H=>H.z 0 S0) ?_
   refine .al rfl zW ?_
   refine .dk (fun u=>wV x::u 0::u 1::us 11) K7 bel fun u1 w1 D bel=>?_
   obtain⟨b8,E1_0,A8,B8⟩:=D.nw 0
   obtain⟨b9,E1_1,A9,B9⟩:=D.nw 1
   have N8_9:=D.n2 0 1 E1_0 E1_1
   clear D
   refine gs1 12 (Amb Z0 W) 11 B9 fun _ K10=>?_
   refine .fz rfl 1 0 E1_0 ?_
   refine .e rfl (V:=.bool true) (fun H=>x_ldc (H.g 3 0) (H.b1 B8 (Ne.symm N8_9))) ?_
   refine .e rfl (V:=.bool false) (fun H=>x_not (H.g 4 1)) ?_
   refine .mv rfl 2 ?_
   refine .sk rfl 3 ?_
   refine .sk rfl 3 ?_
   refine .sk rfl 3 ?_
   refine .e rfl (fun H=>x_pkF (H.g 6 3) (H.c _)) ?_
   refine .fz rfl 1 1 E1_0 ?_
   refine .e rfl (V:=.string (bS x.natAbs)) (fun H=>x_ldc (H.g 11 8) (H.b1 B8 (Ne.symm N8_9))) ?_
   refine .e rfl (V:=.agg #[.bool false,.string (bS x.natAbs)]) (fun H=>by have e10:=H.g 10 7;have e12:=H.g 12 9;clear H;go_simp) ?_
   refine .s1 rfl B9 (fun H=>⟨H.z 2 E1_1,H.g 13 10⟩) ?_
   refine .d1 (fun u=>wV x::u1 0::u1 1::sq u 0 11 []) K10 bel A9 fun u2 w2 D bel=>?_
   replace B9:=D.ol 11
   clear D
   exact wp_ret (rr rfl E1_1 B9 (neg_w1 (of_decide_eq_true c1)) bel)
 ·
  have dc1:=of_decide_eq_false c1
  have S0:(wV x:Value)=.agg #[.bool false,.string (bS x.natAbs)]:=by simp only [wV,wC,c1]
  rcases Bool.eq_false_or_eq_true (decide (x.natAbs=0)) with c11|c11
  ·
   have dc11:=of_decide_eq_true c11
   refine gs 2 (Amb Z0 W) fun _ K12=>?_
   refine .bx rfl (fun H=>H.z 0 S0) ?_
   refine .al rfl zW ?_
   refine .dk (fun u=>wV x::u 0::u 1::us 11) K12 bel fun u1 w1 D bel=>?_
   obtain⟨b13,E1_0,A13,B13⟩:=D.nw 0
   obtain⟨b14,E1_1,A14,B14⟩:=D.nw 1
   have N13_14:=D.n2 0 1 E1_0 E1_1
   clear D
   refine gs1 12 (Amb Z0 W) 11 B14 fun _ K15=>?_
   refine .fz rfl 1 0 E1_0 ?_
   refine .e rfl (V:=.bool false) (fun H=>x_ldc (H.g 3 0) (H.b1 B13 (Ne.symm N13_14))) ?_
   refine .e rfl (V:=.bool true) (fun H=>x_not (H.g 4 1)) ?_
   refine .mv rfl 2 ?_
   refine .fz rfl 1 1 E1_0 ?_ (hg:=gq 3 rfl)
   refine .e rfl (V:=.string (bS x.natAbs)) (fun H=>x_ldc (H.g 7 4) (H.b1 B13 (Ne.symm N13_14))) ?_ (hg:=gq 3 rfl)
   refine .e rfl (V:=.bool false) (fun H=>by have e8:=H.g 8 5;have k1:=H.c (.string (ByteArray.mk #[]));have s_:=bS_empty x.natAbs;have k_:=c11;clear H;go_simp<;>first|(simp_all;done)|omega|exact len_gt z0_) ?_ (hg:=gq 3 rfl)
   refine .e rfl (fun H=>x_pkT (H.g 6 3) (H.g 9 6)) ?_
   refine .fz rfl 1 1 E1_0 ?_
   refine .e rfl (V:=.string (bS x.natAbs)) (fun H=>x_ldc (H.g 11 8) (H.b1 B13 (Ne.symm N13_14))) ?_
   refine .e rfl (V:=.agg #[.bool false,.string (bS x.natAbs)]) (fun H=>by have e10:=H.g 10 7;have e12:=H.g 12 9;clear H;go_simp) ?_
   refine .s1 rfl B14 (fun H=>⟨H.z 2 E1_1,H.g 13 10⟩) ?_
   refine .d1 (fun u=>wV x::u1 0::u1 1::sq u 0 11 []) K15 bel A14 fun u2 w2 D bel=>?_
   replace B14:=D.ol 11
   clear D
   exact wp_ret (rr rfl E1_1 B14 (neg_w2 (of_decide_eq_true c11)) bel)
  ·
   have dc11:=of_decide_eq_false c11
   refine gs 2 (Amb Z0 W) fun _ K16=>?_
   refine .bx rfl (fun H=>H.z 0 S0) ?_
   refine .al rfl zW ?_
   refine .dk (fun u=>wV x::u 0::u 1::us 11) K16 bel fun u1 w1 D bel=>?_
   obtain⟨b17,E1_0,A17,B17⟩:=D.nw 0
   obtain⟨b18,E1_1,A18,B18⟩:=D.nw 1
   have N17_18:=D.n2 0 1 E1_0 E1_1
   clear D
   refine gs1 12 (Amb Z0 W) 11 B18 fun _ K19=>?_
   refine .fz rfl 1 0 E1_0 ?_
   refine .e rfl (V:=.bool false) (fun H=>x_ldc (H.g 3 0) (H.b1 B17 (Ne.symm N17_18))) ?_
   refine .e rfl (V:=.bool true) (fun H=>x_not (H.g 4 1)) ?_
   refine .mv rfl 2 ?_
   refine .fz rfl 1 1 E1_0 ?_ (hg:=gq 3 rfl)
   refine .e rfl (V:=.string (bS x.natAbs)) (fun H=>x_ldc (H.g 7 4) (H.b1 B17 (Ne.symm N17_18))) ?_ (hg:=gq 3 rfl)
   refine .e rfl (V:=.bool true) (fun H=>by have e8:=H.g 8 5;have k1:=H.c (.string (ByteArray.mk #[]));have s_:=bS_empty x.natAbs;have k_:=c11;clear H;go_simp<;>first|(simp_all;done)|omega|exact len_gt z0_) ?_ (hg:=gq 3 rfl)
   refine .e rfl (fun H=>x_pkT (H.g 6 3) (H.g 9 6)) ?_
   refine .fz rfl 1 1 E1_0 ?_
   refine .e rfl (V:=.string (bS x.natAbs)) (fun H=>x_ldc (H.g 11 8) (H.b1 B17 (Ne.symm N17_18))) ?_
   refine .e rfl (V:=.agg #[.bool true,.string (bS x.natAbs)]) (fun H=>by have e10:=H.g 10 7;have e12:=H.g 12 9;clear H;go_simp) ?_
   refine .s1 rfl B18 (fun H=>⟨H.z 2 E1_1,H.g 13 10⟩) ?_
   refine .d1 (fun u=>wV x::u1 0::u1 1::sq u 0 11 []) K19 bel A18 fun u2 w2 D bel=>?_
   replace B18:=D.ol 11
   clear D
   exact wp_ret (rr rfl E1_1 B18 (neg_w3 (of_decide_eq_false c1) (of_decide_eq_false c11)) bel)
theorem rAbs(x:Int):Calls Tryz.prog 164 #[wV x] W (RetV (wV (x.natAbs:Int)) W):=by
 have bel:=b0 W
 go_enter Tryz.func164,Tryz.ntmps164
 refine gs 2 (Amb Z0 W) fun _ K1=>?_
 refine .bx rfl (fun H=>H.v 0 (wV x)) ?_
 refine .al rfl zW ?_
 refine .dk (fun u=>wV x::u 0::u 1::us 3) K1 bel fun u1 w1 D bel=>?_
 obtain⟨b2,E1_0,A2,B2⟩:=D.nw 0
 obtain⟨b3,E1_1,A3,B3⟩:=D.nw 1
 have N2_3:=D.n2 0 1 E1_0 E1_1
 clear D
 refine gs1 4 (Amb Z0 W) 3 B3 fun _ K4=>?_
 refine .fz rfl 1 1 E1_0 ?_
 refine .e rfl (V:=.string (bS x.natAbs)) (fun H=>x_ldc (H.g 3 0) (H.b1 B2 (Ne.symm N2_3))) ?_
 refine .e rfl (V:=.agg #[.bool false,.string (bS x.natAbs)]) (fun H=>by have e4:=H.g 4 1;clear H;go_simp) ?_
 refine .s1 rfl B3 (fun H=>⟨H.z 2 E1_1,H.g 5 2⟩) ?_
 refine .d1 (fun u=>wV x::u1 0::u1 1::sq u 0 3 []) K4 bel A3 fun u2 w2 D bel=>?_
 replace B3:=D.ol 3
 clear D
 exact wp_ret (rr rfl E1_1 B3 (abs_w x) bel)
theorem rSign(x:Int):Calls Tryz.prog 179 #[wV x] W (RetV (.int .i64 x.sign) W):=by
 have bel:=b0 W
 go_enter Tryz.func179,Tryz.ntmps179
 refine gs 2 (Amb Z0 W) fun _ K1=>?_
 refine .bx rfl (fun H=>H.v 0 (wV x)) ?_
 refine .mc rfl ?_
 refine .dk (fun u=>wV x::u 0::u 1::us 5) K1 bel fun u1 w1 D bel=>?_
 obtain⟨b2,E1_0,A2,B2⟩:=D.nw 0
 have E1_1:=D.q 1
 clear D
 refine wp_seq_k fun _ K3=>?_
 refine gs 3 (Amb Z0 W) fun _ K4=>?_
 refine .fz rfl 1 1 E1_0 ?_
 refine .lc rfl 0 B2 ?_ (V:=.string (bS x.natAbs))
 refine .e rfl (V:=.bool (decide (x.natAbs=0))) (fun H=>by have e4:=H.g 4 1;have k1:=H.c (.string (ByteArray.mk #[]));have s_:=bS_empty x.natAbs;clear H;go_simp<;>first|(simp_all;done)|omega|exact len_gt z0_) ?_
 refine .dk (fun u=>wV x::u1 0::u1 1::sq u 0 3 (U::U::[])) K4 bel fun u2 w2 D bel=>?_
 have E2_2:=D.q 2
 replace B2:=D.k B2
 clear D
 rcases Bool.eq_false_or_eq_true (decide (x.natAbs=0)) with c5|c5
 ·
  refine wp_cond_true ((E2_2).trans (congrArg Value.bool c5)) ?_
  have dc5:=of_decide_eq_true c5
  refine gs 1 (Amb Z0 W) fun _ K6=>?_
  refine .mc rfl ?_
  refine .dk (fun u=>wV x::u1 0::u 0::sq u2 0 3 (U::U::[])) K6 bel fun u3 w3 D bel=>?_
  have E3_0:=D.q 0
  clear D
  exact wp_ret (rt rfl E3_0 (sign_0 (of_decide_eq_true c5)) bel)
 ·
  refine wp_cond_false ((E2_2).trans (congrArg Value.bool c5)) ?_
  have dc5:=of_decide_eq_false c5
  refine wp_skip ?_
  refine K3 _ _ ?_
  refine wp_seq_k fun _ K7=>?_
  refine gs 2 (Amb Z0 W) fun _ K8=>?_
  refine .fz rfl 1 0 E1_0 ?_
  refine .lc rfl 0 B2 ?_ (V:=.bool (decide (x<0)))
  refine .dk (fun u=>wV x::u1 0::u1 1::sq u2 0 3 (u 0::u 1::[])) K8 bel fun u4 w4 D bel=>?_
  have E4_1:=D.q 1
  clear D
  rcases Bool.eq_false_or_eq_true (decide (x<0)) with c9|c9
  ·
   refine wp_cond_true ((E4_1).trans (congrArg Value.bool c9)) ?_
   have dc9:=of_decide_eq_true c9
   refine gs 1 (Amb Z0 W) fun _ K10=>?_
   refine .mc rfl ?_
   refine .dk (fun u=>wV x::u1 0::u 0::sq u2 0 3 (u4 0::u4 1::[])) K10 bel fun u5 w5 D bel=>?_
   have E5_0:=D.q 0
   clear D
   exact wp_ret (rt rfl E5_0 (sign_n (of_decide_eq_true c9)) bel)
  ·
   refine wp_cond_false ((E4_1).trans (congrArg Value.bool c9)) ?_
   have dc9:=of_decide_eq_false c9
   refine wp_skip ?_
   refine K7 _ _ ?_
   refine gs 1 (Amb Z0 W) fun _ K11=>?_
   refine .mc rfl ?_
   refine .dk (fun u=>wV x::u1 0::u 0::sq u2 0 3 (u4 0::u4 1::[])) K11 bel fun u6 w6 D bel=>?_
   have E6_0:=D.q 0
   clear D
   exact wp_ret (rt rfl E6_0 (sign_p (of_decide_eq_false c5) (of_decide_eq_false c9)) bel)
theorem rCmp(x y:Int)(p0:hi x+hi y≤1099511627776):Calls Tryz.prog 213 #[wV x,wV y] W (RetV (.int .i64 (icmp x y)) W):=by
 have q0:=hi_bl x
 have q1:=hi_bl y
 have bel:=b0 W
 go_enter Tryz.func213,Tryz.ntmps213
 refine gs 3 (Amb Z0 W) fun _ K1=>?_
 refine .bx rfl (fun H=>H.v 0 (wV x)) ?_
 refine .bx rfl (fun H=>H.v 1 (wV y)) ?_
 refine .mc rfl ?_
 refine .dk (fun u=>wV x::wV y::sq u 0 3 (us 21)) K1 bel fun u1 w1 D bel=>?_
 obtain⟨b2,E1_0,A2,B2⟩:=D.nw 0
 obtain⟨b3,E1_1,A3,B3⟩:=D.nw 1
 have E1_2:=D.q 2
 clear D
 refine gd 6 (Amb Z0 W) fun _ K4=>?_
 refine .lr rfl 2 E1_0 B2 ?_
 refine .cK rfl Tryz.func179 (fun H=>⟨_,ar1 (H.g 7 0),rSign _⟩) ?_
 refine .lr rfl 3 E1_1 B3 ?_
 refine .cK rfl Tryz.func179 (fun H=>⟨_,ar1 (H.g 9 2),rSign _⟩) ?_
 refine .mv rfl 1 ?_
 refine .mv rfl 3 ?_
 refine .dk (fun u=>wV x::wV y::sq u1 0 3 (u 4::u 5::sq u 0 4 (us 15))) K4 bel fun u2 w2 D bel=>?_
 have E2_4:=D.q 4
 have E2_5:=D.q 5
 replace B2:=D.k B2
 replace B3:=D.k B3
 clear D
 refine wp_seq_k fun _ K5=>?_
 refine gs 3 (Amb Z0 W) fun _ K6=>?_
 refine .mz rfl 5 E2_4 ?_
 refine .mz rfl 6 E2_5 ?_
 refine .e rfl (V:=.bool (x.sign != y.sign)) (fun H=>x_cmp (H.g 11 0) (H.g 12 1)) ?_
 refine .dk (fun u=>wV x::wV y::sq u1 0 3 (u2 4::u2 5::sq u2 0 4 (sq u 0 3 (us 12)))) K6 bel fun u3 w3 D bel=>?_
 have E3_2:=D.q 2
 replace B2:=D.k B2
 replace B3:=D.k B3
 clear D
 rcases Bool.eq_false_or_eq_true (x.sign != y.sign) with c7|c7
 ·
  refine wp_cond_true ((E3_2).trans (congrArg Value.bool c7)) ?_
  refine wp_seq_k fun _ K8=>?_
  refine gs 3 (Amb Z0 W) fun _ K9=>?_
  refine .mz rfl 5 E2_4 ?_
  refine .mz rfl 6 E2_5 ?_
  refine .e rfl (V:=.bool (decide (x.sign<y.sign))) (fun H=>x_cmp (H.g 14 0) (H.g 15 1)) ?_
  refine .dk (fun u=>wV x::wV y::sq u1 0 3 (u2 4::u2 5::sq u2 0 4 (sq u3 0 3 (sq u 0 3 (us 9))))) K9 bel fun u4 w4 D bel=>?_
  have E4_2:=D.q 2
  clear D
  rcases Bool.eq_false_or_eq_true (decide (x.sign<y.sign)) with c10|c10
  ·
   refine wp_cond_true ((E4_2).trans (congrArg Value.bool c10)) ?_
   have dc10:=of_decide_eq_true c10
   refine gs 1 (Amb Z0 W) fun _ K11=>?_
   refine .mc rfl ?_
   refine .dk (fun u=>wV x::wV y::u1 0::u1 1::u 0::u2 4::u2 5::sq u2 0 4 (sq u3 0 3 (sq u4 0 3 (us 9)))) K11 bel fun u5 w5 D bel=>?_
   have E5_0:=D.q 0
   clear D
   exact wp_ret (rt rfl E5_0 (cmp_lt dc10) bel)
  ·
   refine wp_cond_false ((E4_2).trans (congrArg Value.bool c10)) ?_
   have dc10:=of_decide_eq_false c10
   refine wp_skip ?_
   refine K8 _ _ ?_
   refine gs 1 (Amb Z0 W) fun _ K12=>?_
   refine .mc rfl ?_
   refine .dk (fun u=>wV x::wV y::u1 0::u1 1::u 0::u2 4::u2 5::sq u2 0 4 (sq u3 0 3 (sq u4 0 3 (us 9)))) K12 bel fun u6 w6 D bel=>?_
   have E6_0:=D.q 0
   clear D
   exact wp_ret (rt rfl E6_0 (cmp_gt c7 dc10) bel)
 ·
  refine wp_cond_false ((E3_2).trans (congrArg Value.bool c7)) ?_
  refine wp_skip ?_
  refine K5 _ _ ?_
  refine gd 10 (Amb Z0 W) fun _ K13=>?_
  refine .mz rfl 5 E2_4 ?_
  refine .fz rfl 2 1 E1_0 ?_
  refine .lc rfl 1 B2 ?_ (V:=.string (bS x.natAbs))
  refine .cR rfl [] Tryz.func266 (fun H=>⟨_,ar1 (H.g 19 2),gWords _ (by omega)⟩) ?_
  refine .fz rfl 3 1 E1_1 ?_
  refine .lc rfl 4 B3 ?_ (V:=.string (bS y.natAbs))
  refine .cR rfl [] Tryz.func266 (fun H=>⟨_,ar1 (H.g 22 5),gWords _ (by omega)⟩) ?_
  refine .cK rfl Tryz.func271 (fun H=>⟨_,ar2 (H.r 20 3) (H.r 23 6),gUnder _ _ (SV.any (H.a 3 rfl)) (SV.any (H.a 6 rfl))⟩) ?_
  refine .e rfl (V:=.int .i64 (x.sign*(cmp3 x.natAbs y.natAbs))) (fun H=>x_ari (H.g 17 0) (H.g 24 7) (IntWalk.i64_in _ (by exact sgn_cmp_in))) ?_
  refine .mv rfl 8 ?_
  refine .dk (fun u=>wV x::wV y::u1 0::u1 1::u 9::u2 4::u2 5::sq u2 0 4 (sq u3 0 3 (U::U::U::sq u 0 9 []))) K13 bel fun u7 w7 D bel=>?_
  have E7_9:=D.q 9
  clear D
  exact wp_ret (rt rfl E7_9 (cmp_eq c7) bel)
theorem rPlus(x y:Int)(p0:hi x+hi y≤1099511627776):Calls Tryz.prog 168 #[wV x,wV y] W (RetV (wV (x+y)) W):=by
 have q0:=hi_bl x
 have q1:=hi_bl y
 have q2:=bl_add x.natAbs y.natAbs
 have bel:=b0 W
 go_enter Tryz.func168,Tryz.ntmps168
 refine gs 3 (Amb Z0 W) fun _ K1=>?_
 refine .bx rfl (fun H=>H.v 0 (wV x)) ?_
 refine .bx rfl (fun H=>H.v 1 (wV y)) ?_
 refine .al rfl zW ?_
 refine .dk (fun u=>wV x::wV y::sq u 0 3 (us 35)) K1 bel fun u1 w1 D bel=>?_
 obtain⟨b2,E1_0,A2,B2⟩:=D.nw 0
 obtain⟨b3,E1_1,A3,B3⟩:=D.nw 1
 obtain⟨b4,E1_2,A4,B4⟩:=D.nw 2
 have N2_4:=D.n2 0 2 E1_0 E1_2
 have N3_4:=D.n2 1 2 E1_1 E1_2
 clear D
 refine gd 8 (Amb Z0 W) fun _ K5=>?_
 refine .fz rfl 2 1 E1_0 ?_
 refine .lc rfl 0 B2 ?_ (V:=.string (bS x.natAbs))
 refine .cR rfl [] Tryz.func266 (fun H=>⟨_,ar1 (H.g 8 1),gWords _ (by first|omega|(have q3:=bl_mono (Nat.sub_le x.natAbs y.natAbs);omega)|(have q3:=bl_mono (Nat.sub_le y.natAbs x.natAbs);omega)|exact cmp3_ge_le dx_x|exact cmp3_nge_le dx_x)⟩) ?_
 refine .fz rfl 3 1 E1_1 ?_
 refine .lc rfl 3 B3 ?_ (V:=.string (bS y.natAbs))
 refine .cR rfl [] Tryz.func266 (fun H=>⟨_,ar1 (H.g 11 4),gWords _ (by first|omega|(have q3:=bl_mono (Nat.sub_le x.natAbs y.natAbs);omega)|(have q3:=bl_mono (Nat.sub_le y.natAbs x.natAbs);omega)|exact cmp3_ge_le dx_x|exact cmp3_nge_le dx_x)⟩) ?_
 refine .mn rfl 2 [2] ?_
 refine .mn rfl 5 [5] ?_
 refine .dk (fun u=>wV x::wV y::sq u1 0 3 (u 6::u 7::sq u 0 6 (us 27))) K5 bel fun u2 w2 D bel=>?_
 obtain⟨x6,E2_6,F_x6⟩:∃ x_,(u2 6).v=x_∧(MagP x.natAbs).p (Amb Z0 W) x_ w2:=⟨_,rfl,D.rr 6⟩
 obtain⟨x7,E2_7,F_x7⟩:∃ x_,(u2 7).v=x_∧(MagP y.natAbs).p (Amb Z0 W) x_ w2:=⟨_,rfl,D.rr 7⟩
 replace B2:=D.k B2
 replace B3:=D.k B3
 replace B4:=D.k B4
 clear D
 refine wp_seq_k fun _ K8=>?_
 refine gs 5 (Amb Z0 W) fun _ K9=>?_
 refine .fz rfl 2 0 E1_0 ?_
 refine .lc rfl 0 B2 ?_ (V:=.bool (decide (x<0)))
 refine .fz rfl 3 0 E1_1 ?_
 refine .lc rfl 2 B3 ?_ (V:=.bool (decide (y<0)))
 refine .e rfl (V:=.bool ((decide (x<0)) == (decide (y<0)))) (fun H=>x_beq (H.g 14 1) (H.g 16 3)) ?_
 refine .dk (fun u=>wV x::wV y::sq u1 0 3 (u2 6::u2 7::sq u2 0 6 (sq u 0 5 (us 22)))) K9 bel fun u3 w3 D bel=>?_
 have E3_4:=D.q 4
 replace B2:=D.k B2
 replace B3:=D.k B3
 replace B4:=D.k B4
 replace F_x6:=D.gr (MagP x.natAbs) F_x6
 replace F_x7:=D.gr (MagP y.natAbs) F_x7
 clear D
 rcases Bool.eq_false_or_eq_true ((decide (x<0)) == (decide (y<0))) with c10|c10
 ·
  refine wp_cond_true ((E3_4).trans (congrArg Value.bool c10)) ?_
  refine gd1 7 (Amb Z0 W) 6 B4 fun _ K11=>?_
  refine .fz rfl 2 0 E1_0 ?_
  refine .e rfl (V:=.bool (decide (x<0))) (fun H=>x_ldc (H.g 18 0) (H.b1 B2 (Ne.symm N2_4))) ?_
  refine .mz rfl 5 E2_6 ?_
  refine .mz rfl 6 E2_7 ?_
  refine .cR rfl [] Tryz.func270 (fun H=>⟨_,ar2 (H.g 20 2) (H.g 21 3),gMore _ _ (H.was _ [] F_x6) (H.was _ [] F_x7) (by first|omega|(have q3:=bl_mono (Nat.sub_le x.natAbs y.natAbs);omega)|(have q3:=bl_mono (Nat.sub_le y.natAbs x.natAbs);omega)|exact cmp3_ge_le dx_x|exact cmp3_nge_le dx_x) (by first|omega|(have q3:=bl_mono (Nat.sub_le x.natAbs y.natAbs);omega)|(have q3:=bl_mono (Nat.sub_le y.natAbs x.natAbs);omega)|exact cmp3_ge_le dx_x|exact cmp3_nge_le dx_x)⟩) ?_
  refine .cK rfl Tryz.func264 (fun H=>⟨_,ar2 (H.g 19 1) (H.r 22 4),gMadeZ _ _ (SV.any (H.a 4 rfl)) (by first|omega|(have q3:=bl_mono (Nat.sub_le x.natAbs y.natAbs);omega)|(have q3:=bl_mono (Nat.sub_le y.natAbs x.natAbs);omega)|exact cmp3_ge_le dx_x|exact cmp3_nge_le dx_x)⟩) ?_
  refine .s1 rfl B4 (fun H=>⟨H.z 4 E1_2,H.g 23 5⟩) ?_
  refine .d1 (fun u=>wV x::wV y::sq u1 0 3 (u2 6::u2 7::sq u2 0 6 (sq u3 0 5 (sq u 0 6 (us 16))))) K11 bel A4 fun u4 w4 D bel=>?_
  replace B4:=D.ol 6
  clear D
  exact wp_ret (rr rfl E1_2 B4 (wh_eq (plus_1 c10)) bel)
 ·
  refine wp_cond_false ((E3_4).trans (congrArg Value.bool c10)) ?_
  refine wp_skip ?_
  refine K8 _ _ ?_
  refine wp_seq_k fun _ K12=>?_
  refine gs 4 (Amb Z0 W) fun _ K13=>?_
  refine .mz rfl 5 E2_6 ?_
  refine .mz rfl 6 E2_7 ?_
  refine .cK rfl Tryz.func271 (fun H=>⟨_,ar2 (H.g 24 0) (H.g 25 1),gUnder _ _ (VP.any _ (H.was _ [] F_x6)) (VP.any _ (H.was _ [] F_x7))⟩) ?_
  refine .e rfl (V:=.bool (decide (0≤(cmp3 x.natAbs y.natAbs)))) (fun H=>x_cmp (H.g 26 2) (H.c _)) ?_
  refine .dk (fun u=>wV x::wV y::sq u1 0 3 (u2 6::u2 7::sq u2 0 6 (sq u3 0 5 (U::U::U::U::U::U::sq u 0 4 (us 12))))) K13 bel fun u5 w5 D bel=>?_
  have E5_3:=D.q 3
  replace B2:=D.k B2
  replace B3:=D.k B3
  replace B4:=D.k B4
  replace F_x6:=D.gr (MagP x.natAbs) F_x6
  replace F_x7:=D.gr (MagP y.natAbs) F_x7
  clear D
  rcases Bool.eq_false_or_eq_true (decide (0≤(cmp3 x.natAbs y.natAbs))) with c14|c14
  ·
   refine wp_cond_true ((E5_3).trans (congrArg Value.bool c14)) ?_
   have dc14:=of_decide_eq_true c14
   refine gd1 7 (Amb Z0 W) 6 B4 fun _ K15=>?_
   refine .fz rfl 2 0 E1_0 ?_
   refine .e rfl (V:=.bool (decide (x<0))) (fun H=>x_ldc (H.g 28 0) (H.b1 B2 (Ne.symm N2_4))) ?_
   refine .mz rfl 5 E2_6 ?_
   refine .mz rfl 6 E2_7 ?_
   refine .cR rfl [] Tryz.func272 (fun H=>⟨_,ar2 (H.g 30 2) (H.g 31 3),gLess _ _ (H.was _ [] F_x6) (H.was _ [] F_x7) (by first|omega|(have q3:=bl_mono (Nat.sub_le x.natAbs y.natAbs);omega)|(have q3:=bl_mono (Nat.sub_le y.natAbs x.natAbs);omega)|exact cmp3_ge_le dc14|exact cmp3_nge_le dc14) (by first|omega|(have q3:=bl_mono (Nat.sub_le x.natAbs y.natAbs);omega)|(have q3:=bl_mono (Nat.sub_le y.natAbs x.natAbs);omega)|exact cmp3_ge_le dc14|exact cmp3_nge_le dc14)⟩) ?_
   refine .cK rfl Tryz.func264 (fun H=>⟨_,ar2 (H.g 29 1) (H.r 32 4),gMadeZ _ _ (SV.any (H.a 4 rfl)) (by first|omega|(have q3:=bl_mono (Nat.sub_le x.natAbs y.natAbs);omega)|(have q3:=bl_mono (Nat.sub_le y.natAbs x.natAbs);omega)|exact cmp3_ge_le dc14|exact cmp3_nge_le dc14)⟩) ?_
   refine .s1 rfl B4 (fun H=>⟨H.z 4 E1_2,H.g 33 5⟩) ?_
   refine .d1 (fun u=>wV x::wV y::sq u1 0 3 (u2 6::u2 7::sq u2 0 6 (sq u3 0 5 (U::U::U::U::U::U::sq u5 0 4 (sq u 0 6 (us 6)))))) K15 bel A4 fun u6 w6 D bel=>?_
   replace B4:=D.ol 6
   clear D
   exact wp_ret (rr rfl E1_2 B4 (wh_eq (plus_2 c10 dc14)) bel)
  ·
   refine wp_cond_false ((E5_3).trans (congrArg Value.bool c14)) ?_
   have dc14:=of_decide_eq_false c14
   refine wp_skip ?_
   refine K12 _ _ ?_
   refine gd1 7 (Amb Z0 W) 6 B4 fun _ K16=>?_
   refine .fz rfl 3 0 E1_1 ?_
   refine .e rfl (V:=.bool (decide (y<0))) (fun H=>x_ldc (H.g 34 0) (H.b1 B3 (Ne.symm N3_4))) ?_
   refine .mz rfl 6 E2_7 ?_
   refine .mz rfl 5 E2_6 ?_
   refine .cR rfl [] Tryz.func272 (fun H=>⟨_,ar2 (H.g 36 2) (H.g 37 3),gLess _ _ (H.was _ [] F_x7) (H.was _ [] F_x6) (by first|omega|(have q3:=bl_mono (Nat.sub_le x.natAbs y.natAbs);omega)|(have q3:=bl_mono (Nat.sub_le y.natAbs x.natAbs);omega)|exact cmp3_ge_le dc14|exact cmp3_nge_le dc14) (by first|omega|(have q3:=bl_mono (Nat.sub_le x.natAbs y.natAbs);omega)|(have q3:=bl_mono (Nat.sub_le y.natAbs x.natAbs);omega)|exact cmp3_ge_le dc14|exact cmp3_nge_le dc14)⟩) ?_
   refine .cK rfl Tryz.func264 (fun H=>⟨_,ar2 (H.g 35 1) (H.r 38 4),gMadeZ _ _ (SV.any (H.a 4 rfl)) (by first|omega|(have q3:=bl_mono (Nat.sub_le x.natAbs y.natAbs);omega)|(have q3:=bl_mono (Nat.sub_le y.natAbs x.natAbs);omega)|exact cmp3_ge_le dc14|exact cmp3_nge_le dc14)⟩) ?_
   refine .s1 rfl B4 (fun H=>⟨H.z 4 E1_2,H.g 39 5⟩) ?_
   refine .d1 (fun u=>wV x::wV y::sq u1 0 3 (u2 6::u2 7::sq u2 0 6 (sq u3 0 5 (U::U::U::U::U::U::sq u5 0 4 (U::U::U::U::U::U::sq u 0 6 []))))) K16 bel A4 fun u7 w7 D bel=>?_
   replace B4:=D.ol 6
   clear D
   exact wp_ret (rr rfl E1_2 B4 (wh_eq (plus_3 c10 dc14)) bel)
theorem rMinus(x y:Int)(p0:hi x+hi y≤1099511627776):Calls Tryz.prog 267 #[wV x,wV y] W (RetV (wV (x-y)) W):=by
 have q0:=hi_neg y
 have bel:=b0 W
 go_enter Tryz.func267,Tryz.ntmps267
 refine gs 3 (Amb Z0 W) fun _ K1=>?_
 refine .bx rfl (fun H=>H.v 0 (wV x)) ?_
 refine .bx rfl (fun H=>H.v 1 (wV y)) ?_
 refine .al rfl zW ?_
 refine .dk (fun u=>wV x::wV y::sq u 0 3 (us 4)) K1 bel fun u1 w1 D bel=>?_
 obtain⟨b2,E1_0,A2,B2⟩:=D.nw 0
 obtain⟨b3,E1_1,A3,B3⟩:=D.nw 1
 obtain⟨b4,E1_2,A4,B4⟩:=D.nw 2
 have N2_4:=D.n2 0 2 E1_0 E1_2
 have N3_4:=D.n2 1 2 E1_1 E1_2
 clear D
 refine gd1 5 (Amb Z0 W) 4 B4 fun _ K5=>?_
 refine .e rfl (fun H=>x_ldr (H.z 2 E1_0) (H.b1 B2 (Ne.symm N2_4))) ?_
 refine .e rfl (fun H=>x_ldr (H.z 3 E1_1) (H.b1 B3 (Ne.symm N3_4))) ?_
 refine .cK rfl Tryz.func268 (fun H=>⟨_,ar1 (H.g 6 1),rNeg _⟩) ?_
 refine .cK rfl Tryz.func168 (fun H=>⟨_,ar2 (H.g 5 0) (H.g 7 2),rPlus _ _ (by omega)⟩) ?_
 refine .s1 rfl B4 (fun H=>⟨H.z 4 E1_2,H.g 8 3⟩) ?_
 refine .d1 (fun u=>wV x::wV y::sq u1 0 3 (sq u 0 4 [])) K5 bel A4 fun u2 w2 D bel=>?_
 replace B4:=D.ol 4
 clear D
 exact wp_ret (rr rfl E1_2 B4 (wh_eq (Int.sub_eq_add_neg).symm) bel)
end Go.Proofs.YtcdbmjnipaochaaGreat
namespace Go.Proofs.YtcdbmjnipaochaaGreat
open Go.RowKit Rgn
theorem two_words(N:Nat)(h:N<18446744073709551616):Bd [N%4294967296,N/4294967296]∧val [N%4294967296,N/4294967296]=N:=by
 refine⟨fun x hx=>?_,?_⟩
 ·simp only [List.mem_cons,List.not_mem_nil,or_false] at hx
  omega
 ·simp only [val];omega
theorem Words.two{w:World}{x y:Nat}(hx:x<4294967296)(hy:y<4294967296):Words (w.alloc (.cells #[.int .u32 (x:Int),.int .u32 (y:Int)] 315)) (.slice (some ⟨w.heap.size,0,none⟩) 2 2) [x,y]:=by
 refine .inr ⟨_,0,2,_,_,rfl,(MapKept.heap_alloc w _).1,by simp,by omega,fun i z hi=>?_⟩
 match i,hi with
 | 0,hi=>simp at hi;subst hi;exact⟨rfl,hx⟩
 | 1,hi=>simp at hi;subst hi;exact⟨rfl,hy⟩
theorem rOf{W:World}(n:Int)(h1:-9223372036854775808≤n)(h2:n≤9223372036854775807):Calls Tryz.prog 215 #[.int .i64 n] W (RetV (.agg #[.bool (decide (n<0)),.string (bS n.natAbs)]) W):=by
 obtain⟨hb2,hv2⟩:=two_words n.natAbs (by omega)
 have hlo:(n.natAbs:Int)%4294967296=((n.natAbs%4294967296:Nat):Int):=by omega
 have hhi:(n.natAbs:Int)/4294967296=((n.natAbs/4294967296:Nat):Int):=by omega
 have hlo4:n.natAbs%4294967296<4294967296:=by omega
 have hhi4:n.natAbs/4294967296<4294967296:=by omega
 have hw1:IntKind.wrap .u32 ((n.natAbs%4294967296:Nat):Int)=((n.natAbs%4294967296:Nat):Int):=IntWalk.u32_in _ (by omega)
 have hw2:IntKind.wrap .u32 ((n.natAbs/4294967296:Nat):Int)=((n.natAbs/4294967296:Nat):Int):=IntWalk.u32_in _ (by omega)
 have hN8:n.natAbs<18446744073709551616:=by omega
 by_cases hn:n<0
 ·have hc1:IntKind.wrap .u64 n=n+18446744073709551616:=by rw [IntKind.wrap_u64];omega
  have hc2:IntKind.wrap .u64 (-(n+18446744073709551616))=(n.natAbs:Int):=by rw [IntKind.wrap_u64];omega
  have hN0:(n.natAbs != 0)=true:=by rw [bne_iff_ne];omega
  have hlt:decide (n<0)=true:=decide_eq_true hn
  generalize n.natAbs=N at *
  generalize N%4294967296=lo at *
  generalize N/4294967296=hi at *
  have hb8:lo<4294967296∧hi<4294967296:=⟨hlo4,hhi4⟩
  have hW:=Words.two (w:=W.alloc (.cells #[.bool false,.string ⟨#[]⟩] 23)) hlo4 hhi4
  have HM:=refmade_any true _ _ _ hW (by simp)
  rw [hv2] at HM
  have hsz:(W.alloc (.cells #[.bool false,.string ⟨#[]⟩] 23)).heap.size=W.heap.size+1:=by simp
  rw [hsz] at HM
  have hR0:(W.alloc (.cells #[.bool false,.string ⟨#[]⟩] 23)).heap[W.heap.size]? = some (.cells #[.bool false,.string ⟨#[]⟩] 23 (0,0)):=(MapKept.heap_alloc W _).1
  have hbel0:Below W.heap.size W ((W.alloc (.cells #[.bool false,.string ⟨#[]⟩] 23)).alloc (.cells #[.int .u32 lo,.int .u32 hi] 315)):=(Below.alloc (Below.refl _ _) (Nat.le_refl _) _).alloc (by simp) _
  generalize hw0:W.alloc (.cells #[.bool false,.string ⟨#[]⟩] 23)=w0 at *
  have hR1:(w0.alloc (.cells #[.int .u32 lo,.int .u32 hi] 315)).heap[W.heap.size]? = some (.cells #[.bool false,.string ⟨#[]⟩] 23 (0,0)):=by
   rw [Below.heap_alloc _ _ _ (by rw [hsz];omega)];exact hR0
  go_enter Tryz.func215,Tryz.ntmps215
  go_wp2_with fail
  have hw0' := hw0
  try rw [hw0']
  go_call HM as _ w3 ⟨rfl,hb3⟩
  have hR3:w3.heap[W.heap.size]? = some (.cells #[.bool false,.string ⟨#[]⟩] 23 (0,0)):=by
   rw [hb3.block _ (by exact lt_of hR1)];exact hR1
  have hf1:w3.frozen? ⟨W.heap.size,0,none⟩=false:=frozen_of hR3
  have hf2:w3.frozen? ⟨W.heap.size,1,none⟩=false:=frozen_of hR3
  have hcc1:=cell_of (off:=0) hR3 rfl
  have hcc2:=cell_of (off:=1) hR3 rfl
  have hbel3:Below W.heap.size W w3:=hbel0.trans (hb3.mono (by simp [hsz];omega))
  clear hb3 hbel0 hR1 hR0 HM hW hw0 hsz hb2 hv2 hlo hhi hb8
  simp only [whoV,strV]
  go_wp2_with fail
  have hR4:=setCell_at (o:=0) (v:=.bool true) hR3
  have hR5:=setCell_at (o:=1) (v:=.string ⟨(bytesOf N).toArray⟩) hR4
  refine ret_ok rfl (results_row rfl rfl hR5 Tryz.underlying23 rfl (by kernel_rfl)) (RetV.mk ?_ ((hbel3.setCell (Nat.le_refl _) _).setCell (by simp) _))
  rw [hlt];rfl
 ·have hc1:IntKind.wrap .u64 n=(n.natAbs:Int):=by rw [IntKind.wrap_u64];omega
  have hlt:decide (n<0)=false:=decide_eq_false hn
  generalize n.natAbs=N at *
  generalize N%4294967296=lo at *
  generalize N/4294967296=hi at *
  have hb8:lo<4294967296∧hi<4294967296:=⟨hlo4,hhi4⟩
  have hW:=Words.two (w:=W.alloc (.cells #[.bool false,.string ⟨#[]⟩] 23)) hlo4 hhi4
  have HM:=refmade_any false _ _ _ hW (by simp)
  rw [hv2] at HM
  have hsz:(W.alloc (.cells #[.bool false,.string ⟨#[]⟩] 23)).heap.size=W.heap.size+1:=by simp
  rw [hsz] at HM
  have hR0:(W.alloc (.cells #[.bool false,.string ⟨#[]⟩] 23)).heap[W.heap.size]? = some (.cells #[.bool false,.string ⟨#[]⟩] 23 (0,0)):=(MapKept.heap_alloc W _).1
  have hbel0:Below W.heap.size W ((W.alloc (.cells #[.bool false,.string ⟨#[]⟩] 23)).alloc (.cells #[.int .u32 lo,.int .u32 hi] 315)):=(Below.alloc (Below.refl _ _) (Nat.le_refl _) _).alloc (by simp) _
  generalize hw0:W.alloc (.cells #[.bool false,.string ⟨#[]⟩] 23)=w0 at *
  have hR1:(w0.alloc (.cells #[.int .u32 lo,.int .u32 hi] 315)).heap[W.heap.size]? = some (.cells #[.bool false,.string ⟨#[]⟩] 23 (0,0)):=by
   rw [Below.heap_alloc _ _ _ (by rw [hsz];omega)];exact hR0
  go_enter Tryz.func215,Tryz.ntmps215
  go_wp2_with fail
  have hw0' := hw0
  try rw [hw0']
  go_call HM as _ w3 ⟨rfl,hb3⟩
  have hR3:w3.heap[W.heap.size]? = some (.cells #[.bool false,.string ⟨#[]⟩] 23 (0,0)):=by
   rw [hb3.block _ (by exact lt_of hR1)];exact hR1
  have hf1:w3.frozen? ⟨W.heap.size,0,none⟩=false:=frozen_of hR3
  have hf2:w3.frozen? ⟨W.heap.size,1,none⟩=false:=frozen_of hR3
  have hcc1:=cell_of (off:=0) hR3 rfl
  have hcc2:=cell_of (off:=1) hR3 rfl
  have hbel3:Below W.heap.size W w3:=hbel0.trans (hb3.mono (by simp [hsz];omega))
  clear hb3 hbel0 hR1 hR0 HM hW hw0 hsz hb2 hv2 hlo hhi hb8
  simp only [whoV,strV]
  go_wp2_with fail
  have hR4:=setCell_at (o:=0) (v:=.bool (false&&N != 0)) hR3
  have hR5:=setCell_at (o:=1) (v:=.string ⟨(bytesOf N).toArray⟩) hR4
  refine ret_ok rfl (results_row rfl rfl hR5 Tryz.underlying23 rfl (by kernel_rfl)) (RetV.mk ?_ ((hbel3.setCell (Nat.le_refl _) _).setCell (by simp) _))
  rw [hlt];rfl
end Go.Proofs.YtcdbmjnipaochaaGreat
