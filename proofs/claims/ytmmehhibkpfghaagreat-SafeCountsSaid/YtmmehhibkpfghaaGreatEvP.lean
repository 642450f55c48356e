/- Ev, part P: the orders of a region. -/
import Derived.Test.YtmmehhibkpfghaaGreatEvO
set_option linter.unusedVariables false
namespace Go.Ev
inductive Pred (ops:Array Oper):Nat→Nat→Prop where
 | one {i j:Nat} {o:Oper}:ops[i]?=some o→j ∈ directPreds o→Pred ops i j
 | more {i j k:Nat} {o:Oper}:ops[i]?=some o→j ∈ directPreds o→Pred ops j k→Pred ops i k
structure Sched (ops:Array Oper) (L:List Nat):Prop where
 nodup:L.Nodup
 all:∀ i,i<ops.size→i ∈ L
 lt:∀ i ∈ L,i<ops.size
 topo:∀ A i B o,L=A++i::B→ops[i]?=some o→∀ p ∈ directPreds o,p ∈ A
theorem Sched.pred {ops:Array Oper}{L:List Nat}(h:Sched ops L) {i j:Nat}(hp:Pred ops i j):∀ A B,L=A++i::B→j ∈ A:=by
 induction hp with
 | one ho hj=>intro A B hL; exact h.topo A _ B _ hL ho _ hj
 | @more i' j' k' o' ho hj _ ih =>
  intro A B hL
  have hm:=h.topo A _ B _ hL ho _ hj
  obtain⟨A1,A2,rfl⟩:=List.append_of_mem hm
  have:=ih A1 (A2++i'::B) (by rw[hL]; simp)
  simp [this]
theorem directPreds_mem {o:Oper}{j:Nat}:j ∈ directPreds o↔∃ e ∈ o.after.toList,Region.binds .any e=true∧e.on=j:=by
 simp [directPreds,and_assoc]
theorem inner_mask {acc:Array Nat}{j:Nat}:∀ (l:List Edge) (s:Nat),(l.foldl (fun s e=>if Region.binds .any e then s ||| 2 ^ e.on ||| acc.getD e.on 0 else s) s).testBit j=true →
  s.testBit j=true∨∃ e ∈ l,Region.binds .any e=true∧(j=e.on∨(acc.getD e.on 0).testBit j=true)
 | [],s,h=>.inl h
 | e::l,s,h=>by
  simp only[List.foldl_cons] at h
  rcases inner_mask l _ h with h | ⟨e',he',h'⟩
  ·split at h
   ·rename_i hb
    simp only[Nat.testBit_or,Bool.or_eq_true] at h
    rcases h with (h | h) | h
    ·exact .inl h
    ·right
     refine⟨e,by simp,hb,.inl ?_⟩
     rw[Nat.testBit_two_pow] at h
     exact(of_decide_eq_true h).symm
    ·exact .inr ⟨e,by simp,hb,.inr h⟩
   ·exact .inl h
  ·exact .inr ⟨e',by simp [he'],h'⟩
theorem before_ok (ops:Array Oper):∀ (l:List Oper) (acc:Array Nat),ops.toList.drop acc.size=l→(∀ i j,(acc.getD i 0).testBit j=true→Pred ops i j) →
  ∀ i j,((l.foldl (fun acc o=>acc.push (o.after.foldl (fun s e=>if Region.binds .any e then s ||| 2 ^ e.on ||| acc.getD e.on 0 else s) 0)) acc).getD i 0).testBit j=true→Pred ops i j
 | [],acc,_,h,i,j,hb=>h i j hb
 | o::l,acc,hd,h,i,j,hb=>by
  simp only[List.foldl_cons] at hb
  have ho:ops[acc.size]?=some o:=by
   have:ops.toList[acc.size]?=some o:=by
    have:=congrArg (·[0]?) hd
    simpa using this
   simpa using this
  refine before_ok ops l _ ?_ ?_ i j hb
  ·simp only[Array.size_push]
   have:=congrArg List.tail hd
   simpa [List.tail_drop] using this
  ·intro i j hij
   by_cases e:i=acc.size
   ·subst e
    have hij':(o.after.foldl (fun s e=>if Region.binds .any e then s ||| 2 ^ e.on ||| acc.getD e.on 0 else s) 0).testBit j=true:=by
     simpa [Array.getD] using hij
    rw[← Array.foldl_toList] at hij'
    rcases inner_mask _ _ hij' with h0 | ⟨e,he,hbd,h1⟩
    ·simp at h0
    ·have hm:e.on ∈ directPreds o:=directPreds_mem.2 ⟨e,he,hbd,rfl⟩
     rcases h1 with rfl | h1
     ·exact .one ho hm
     ·exact .more ho hm (h _ _ h1)
   ·refine h i j ?_
    by_cases hlt:i<acc.size
    ·simp only[Array.getD_eq_getD_getElem?,Array.getElem?_push] at hij ⊢
     rwa [if_neg e] at hij
    ·simp only[Array.getD_eq_getD_getElem?,Array.getElem?_push] at hij ⊢
     rwa [if_neg e] at hij
theorem maskOf_ok {ops:Array Oper}{i j:Nat}(h:(maskOf ops i).testBit j=true):Pred ops i j:=by
 unfold maskOf Region.before at h
 rw[← Array.foldl_toList] at h
 exact before_ok ops ops.toList #[] (by simp) (by simp) i j h
theorem ready_mem {ops:Array Oper}{listed:Array Bool}{i:Nat}:i ∈ Region.ready .any ops listed ↔
  i<ops.size∧listed.getD i true=false∧∀ o,ops[i]?=some o→∀ p ∈ directPreds o,listed.getD p false=true:=by
 simp only[Region.ready,List.mem_filter,List.mem_range,Bool.and_eq_true,Bool.not_eq_true']
 constructor
 ·rintro ⟨h1,h2,h3⟩
  refine⟨h1,h2,fun o ho p hp=>?_⟩
  rw[ho] at h3
  simp only[Option.map_some,Option.getD_some] at h3
  obtain⟨e,he,hb,rfl⟩:=directPreds_mem.1 hp
  have:=Array.all_eq_true_iff_forall_mem.1 h3 e (by simpa using he)
  simpa [hb] using this
 ·rintro ⟨h1,h2,h3⟩
  refine⟨h1,h2,?_⟩
  have ho:ops[i]?=some ops[i]:=by simp [h1]
  rw[ho]
  simp only[Option.map_some,Option.getD_some]
  refine Array.all_eq_true_iff_forall_mem.2 fun e he=>?_
  by_cases hb:Region.binds .any e=true
  ·have:=h3 _ ho e.on (directPreds_mem.2 ⟨e,by simpa using he,hb,rfl⟩)
   simp [this]
  ·simp [hb]
def left (n:Nat) (listed:Array Bool):Nat:=(List.range n).countP fun i=>!listed.getD i true
theorem left_set {n i:Nat}{listed:Array Bool}(hn:listed.size=n) (hi:i<n) (hl:listed.getD i true=false):left n (listed.setIfInBounds i true)+1=left n listed:=by
 have hmem:i ∈ List.range n:=by simpa using hi
 obtain⟨A,B,hAB⟩:=List.append_of_mem hmem
 have hnd:(A++i::B).Nodup:=by rw[← hAB]; exact List.nodup_range
 have hA:i ∉ A:=fun h=>by
  have:=(List.nodup_append.1 hnd).2.2 i h i (by simp)
  exact this rfl
 have hB:i ∉ B:=by
  have:=(List.nodup_append.1 hnd).2.1
  exact(List.nodup_cons.1 this).1
 have same:∀ (l:List Nat),i ∉ l→(l.countP fun j=>!(listed.setIfInBounds i true).getD j true)=l.countP fun j=>!listed.getD j true:=by
  intro l hl
  refine List.countP_congr fun j hj=>?_
  have hne:i≠j:=fun e=>hl (e ▸ hj)
  simp [Array.getD_eq_getD_getElem?,Array.getElem?_setIfInBounds_ne hne]
 unfold left
 rw[hAB,List.countP_append,List.countP_append,List.countP_cons,List.countP_cons,same A hA,same B hB]
 have h1:(!(listed.setIfInBounds i true).getD i true)=false:=by
  simp [Array.getD_eq_getD_getElem?,hn,hi]
 rw[h1,hl]
 simp
 omega
theorem go_sched {ops:Array Oper}(hE:okEdges ops=true):∀ (fuel t:Nat) (listed:Array Bool) (acc:List Nat),listed.size=ops.size→left ops.size listed≤fuel →
  (∀ i,i<ops.size→(listed.getD i true=true↔i ∈ acc))→acc.Nodup→(∀ i ∈ acc,i<ops.size) →
  (∀ A i B o,acc.reverse=A++i::B→ops[i]?=some o→∀ p ∈ directPreds o,p ∈ A)→Sched ops (Region.linearise.go .any ops fuel t listed acc):=by
 have edge:∀ i o,ops[i]?=some o→∀ p ∈ directPreds o,p<i:=by
  intro i o ho p hp
  unfold okEdges at hE
  rw[List.all_eq_true] at hE
  have hm:(o,i) ∈ ops.toList.zipIdx:=by
   rw[List.mem_zipIdx_iff_getElem?]
   simpa using ho
  have:=hE _ hm
  rw[List.all_eq_true] at this
  exact of_decide_eq_true (this p hp)
 have finish:∀ (listed:Array Bool) (acc:List Nat),listed.size=ops.size→Region.ready .any ops listed=[]→(∀ i,i<ops.size→(listed.getD i true=true↔i ∈ acc))→acc.Nodup →
   (∀ i ∈ acc,i<ops.size)→(∀ A i B o,acc.reverse=A++i::B→ops[i]?=some o→∀ p ∈ directPreds o,p ∈ A)→Sched ops acc.reverse:=by
  intro listed acc hs hr hl hn hlt ht
  refine⟨(List.reverse_perm acc).nodup_iff.2 hn,fun i hi=>?_,fun i hi=>hlt i (by simpa using hi),ht⟩
  have key:∀ n,∀ i,i<n→i<ops.size→listed.getD i true=true:=by
   intro n
   induction n with
   | zero=>intro i hi; omega
   | succ n ih =>
    intro i hi his
    by_cases hli:listed.getD i true=true
    ·exact hli
    ·exfalso
     have hmem:i ∈ Region.ready .any ops listed:=by
      refine ready_mem.2 ⟨his,by simpa using hli,fun o ho p hp=>?_⟩
      have hpi:=edge i o ho p hp
      have:=ih p (by omega) (by omega)
      have hps:p<listed.size:=by omega
      simpa [Array.getD_eq_getD_getElem?,hps] using this
     rw[hr] at hmem; simp at hmem
  simpa using (hl i hi).1 (key (i+1) i (by omega) hi)
 intro fuel
 induction fuel with
 | zero =>
  intro t listed acc hs hf hl hn hlt ht
  simp only[Region.linearise.go]
  refine finish listed acc hs ?_ hl hn hlt ht
  rw[List.eq_nil_iff_forall_not_mem]
  intro i hi
  obtain⟨h1,h2,_⟩:=ready_mem.1 hi
  have:0<left ops.size listed:=by
   unfold left
   rw[List.countP_pos_iff]
   exact⟨i,by simpa using h1,by simp [h2]⟩
  omega
 | succ fuel ih =>
  intro t listed acc hs hf hl hn hlt ht
  simp only[Region.linearise.go]
  change Sched ops (match (Region.ready .any ops listed)[t % (Region.ready .any ops listed).length]? with
   | some i=>Region.linearise.go .any ops fuel (t / (Region.ready .any ops listed).length) (listed.setIfInBounds i true) (i::acc)
   | none=>acc.reverse)
  split
  ·rename_i i hi
   have hmem:=List.mem_of_getElem? hi
   obtain⟨h1,h2,h3⟩:=ready_mem.1 hmem
   have hni:i ∉ acc:=fun h=>by rw[(hl i h1).2 h] at h2; simp at h2
   refine ih _ _ _ (by simpa using hs) ?_ ?_ (List.nodup_cons.2 ⟨hni,hn⟩) ?_ ?_
   ·have:=left_set hs h1 h2; omega
   ·intro j hj
    by_cases e:j=i
    ·subst e
     simp [Array.getD_eq_getD_getElem?,hs,hj]
    ·have hne:i≠j:=fun h=>e h.symm
     simp only[Array.getD_eq_getD_getElem?,Array.getElem?_setIfInBounds_ne hne,List.mem_cons,e,false_or]
     simpa [Array.getD_eq_getD_getElem?] using hl j hj
   ·intro j hj
    rcases List.mem_cons.1 hj with rfl | hj
    ·exact h1
    ·exact hlt j hj
   ·intro A j B o hA ho p hp
    simp only[List.reverse_cons] at hA
    rcases List.eq_nil_or_concat B with rfl | ⟨B',b,rfl⟩
    ·have:=List.append_inj' hA rfl
     obtain⟨e1,e2⟩:=this
     simp at e2; subst e2
     have hpl:=h3 o ho p hp
     have hpi:=edge i o ho p hp
     have hps:p<listed.size:=by omega
     rw[← e1]
     have:listed.getD p true=true:=by simpa [Array.getD_eq_getD_getElem?,hps] using hpl
     simpa using (hl p (by omega)).1 this
    ·have hA':acc.reverse++[i]=(A++j::B')++[b]:=by rw[hA]; simp
     have:=List.append_inj' hA' rfl
     exact ht A j B' o this.1 ho p hp
  ·rename_i hnone
   refine finish listed acc hs ?_ hl hn hlt ht
   cases hr:Region.ready .any ops listed with
   | nil=>rfl
   | cons x xs =>
    rw[hr] at hnone
    have hlt:t % (x::xs).length<(x::xs).length:=Nat.mod_lt _ (by simp)
    simp at hnone
    simp at hlt
    omega
theorem schedule_ok {ops:Array Oper}(hE:okEdges ops=true) (t:Nat):Sched ops (Region.schedule true ops t):=by
 simp only[Region.schedule,Bool.true_or,if_true,Region.linearise]
 refine go_sched hE _ _ _ _ (by simp) ?_ (fun i hi=>by simp [Array.getD_eq_getD_getElem?,hi]) (by simp) (by simp) (by simp)
 have:=List.countP_le_length (p:=fun i=>!(Array.replicate ops.size false).getD i true) (l:=List.range ops.size)
 simpa [left] using this
end Go.Ev
