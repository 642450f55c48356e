/- Ev, part 7: arguments of any plain types: numbers, truths, structs and arrays of them, and slices that are read alone. -/
import Derived.Test.YtmmehhibkpfghaaGreatEv6
import Derived.Deep.Slices
import Derived.Carry
set_option linter.unusedVariables false
namespace Go.Ev
open Go.RowKit Go.ChangeShapes Go.WideShapes
structure CD where
 i:Nat→Int
 b:Nat→Bool
 row:Nat→Int→Int
 loc:Nat→Option Nat
def CD.no:CD:={ i:=fun _=>0,b:=fun _=>false,row:=fun _ _=>0,loc:=fun _=>none }
def SlI (w:World) (pat:List CK) (d:CD) (q:Nat):Prop :=
 0≤d.i (3*q)∧0≤d.i (3*q+1)∧d.i (3*q+1)≤d.i (3*q+2)∧d.i (3*q+2)≤maxLen ∧
 (d.b (2*q)=true→∃ b vs e' fz,d.loc q=some b∧w.heap[b]?=some (.cells vs e' fz) ∧
  ∀ j,j<(d.i (3*q+1)).toNat*pat.length→∃ ck,pat[j % pat.length]?=some ck∧vs[(d.i (3*q)).toNat+j]?=some (ck.val (d.row q j))) ∧
 (d.b (2*q)=false→d.loc q=none)
def SlV (d:CD) (q:Nat) (v:Value):Prop :=
 (d.b (2*q)=true→∃ b,d.loc q=some b∧v=.slice (some ⟨b,(d.i (3*q)).toNat,none⟩) (d.i (3*q+1)).toNat (d.i (3*q+2)).toNat) ∧
 (d.b (2*q)=false→(d.b (2*q+1)=true→v=.slice none 0 0)∧(d.b (2*q+1)=false→∃ a,v=.slice (some a) 0 0))
def FitC (w:World):CS→Value→CD→Prop
 | .int k,v,d=>v=.int k (d.i 0)∧k.min≤d.i 0∧d.i 0≤k.max∧∀ q,d.loc q=none
 | .bool,v,d=>v=.bool (d.b 0)∧∀ q,d.loc q=none
 | .slice pat _,v,d=>SlI w pat d 0∧SlV d 0 v∧∀ q,1≤q→d.loc q=none
 | .slices pat _ _,v,d=>(0≤d.i 0∧0≤d.i 1∧d.i 1≤d.i 2∧d.i 2≤maxLen ∧
   (d.b 0=true→∃ b vs e' fz,d.loc 0=some b∧w.heap[b]?=some (.cells vs e' fz)∧∀ j:Nat,j<8→(j:Int)<d.i 1→∃ u,vs[(d.i 0).toNat+j]?=some u∧SlV d (j+1) u)∧(d.b 0=false→d.loc 0=none)) ∧
   SlV d 0 v∧(∀ j:Nat,j<8→SlI w pat d (j+1))∧∀ q,9≤q→d.loc q=none
def FitCs (w:World):List CS→List Value→List CD→Prop
 | [],[],[]=>True
 | c::cs,v::vs,d::ds=>FitC w c v d∧FitCs w cs vs ds
 | _,_,_=>False
variable {w:World}
theorem FitCs.nil {w:World}:FitCs w [] [] []:=trivial
theorem FitCs.append:∀ {a b:List CS}{u v:List Value}{x y:List CD},FitCs w a u x→FitCs w b v y→FitCs w (a++b) (u++v) (x++y)
 | [],_,[],_,[],_,_,h=>h
 | _::a,_,_::u,_,_::x,_,h,k=>⟨h.1,h.2.append k⟩
 | [],_,_::_,_,_,_,h,_=>by cases ‹List CD› <;> simp [FitCs] at h
 | [],_,[],_,_::_,_,h,_=>by simp [FitCs] at h
 | _::_,_,[],_,_,_,h,_=>by cases ‹List CD› <;> simp [FitCs] at h
 | _::_,_,_::_,_,[],_,h,_=>by simp [FitCs] at h
theorem FitCs.length:∀ {a:List CS}{u:List Value}{x:List CD},FitCs w a u x→u.length=a.length∧x.length=a.length
 | [],[],[],_=>⟨rfl,rfl⟩
 | _::a,_::u,_::x,h=>by simp [h.2.length.1,h.2.length.2]
 | [],_::_,_,h=>by cases ‹List CD› <;> simp [FitCs] at h
 | [],[],_::_,h=>by simp [FitCs] at h
 | _::_,[],_,h=>by cases ‹List CD› <;> simp [FitCs] at h
 | _::_,_::_,[],h=>by simp [FitCs] at h
theorem FitCs.get:∀ {a:List CS}{u:List Value}{x:List CD},FitCs w a u x→∀ {j:Nat}{c:CS},a[j]?=some c→∃ v d,u[j]?=some v∧x[j]?=some d∧FitC w c v d
 | [],_,_,_,j,c,hc=>by simp at hc
 | _::a,v::u,d::x,h,0,c,hc=>by simp at hc; subst hc; exact⟨v,d,rfl,rfl,h.1⟩
 | _::a,_::u,_::x,h,j+1,c,hc=>by simpa using h.2.get (j:=j) (by simpa using hc)
 | _::_,[],_,h,_,_,_=>by cases ‹List CD› <;> simp [FitCs] at h
 | _::_,_::_,[],h,_,_,_=>by simp [FitCs] at h
theorem FitCs.cks:∀ {l:List CS}{pat:List CK}{u:List Value}{x:List CD},ckL l=some pat→FitCs w l u x→pat.length=l.length∧∀ j,j<pat.length→∃ ck n,pat[j]?=some ck∧u[j]?=some (ck.val n)
 | [],pat,u,x,h,_=>by simp [ckL] at h; subst h; exact⟨rfl,fun j hj=>by simp at hj⟩
 | .slice _ _::_,_,_,_,h,_=>by simp [ckL] at h
 | .slices _ _ _::_,_,_,_,h,_=>by simp [ckL] at h
 | .int k::r,pat,v::u,d::x,h,hf=>by
  simp only[ckL] at h
  split at h
  ·rename_i l hl
   simp at h; subst h
   obtain⟨h1,h2⟩:=FitCs.cks hl hf.2
   refine⟨by simp [h1],fun j hj=>?_⟩
   cases j with
   | zero =>
    obtain⟨q1,q2,q3,_⟩:=hf.1
    exact⟨.int k,d.i 0,rfl,by simp [CK.val,q1,wrap_self k _ q2 q3]⟩
   | succ j=>simpa using h2 j (by simpa using hj)
  ·simp at h
 | .bool::r,pat,v::u,d::x,h,hf=>by
  simp only[ckL] at h
  split at h
  ·rename_i l hl
   simp at h; subst h
   obtain⟨h1,h2⟩:=FitCs.cks hl hf.2
   refine⟨by simp [h1],fun j hj=>?_⟩
   cases j with
   | zero =>
    obtain⟨q1,_⟩:=hf.1
    refine⟨.bool,if d.b 0 then 1 else 0,rfl,?_⟩
    rw[q1]
    cases d.b 0 <;> simp [CK.val] <;> decide
   | succ j=>simpa using h2 j (by simpa using hj)
  ·simp at h
 | .int _::_,_,[],_,_,h=>by cases ‹List CD› <;> simp [FitCs] at h
 | .int _::_,_,_::_,[],_,h=>by simp [FitCs] at h
 | .bool::_,_,[],_,_,h=>by cases ‹List CD› <;> simp [FitCs] at h
 | .bool::_,_,_::_,[],_,h=>by simp [FitCs] at h
section
variable {H:Type} {enc:TypeId × Value→H} {P:Program}
theorem mapM_all {α β:Type}{f:α→Option β}:∀ {l:List α}{xs:List β},l.mapM f=some xs→∀ a ∈ l,∃ x,f a=some x
 | [],_,_,a,ha=>by simp at ha
 | b::l,xs,h,a,ha=>by
  simp only[List.mapM_cons,Option.bind_eq_bind,Option.bind_eq_some_iff] at h
  obtain⟨y,hy,ys,hys,_⟩:=h
  rcases List.mem_cons.1 ha with rfl | ha
  ·exact⟨y,hy⟩
  ·exact mapM_all hys a ha
theorem take_split {α:Type}(cs:List α) (o a b:Nat):(cs.drop o).take (a+b)=(cs.drop o).take a++(cs.drop (o+a)).take b:=by
 rw[List.take_add,List.drop_drop]
theorem fit_fields {f:TypeId→Option (List CS)}{q:TypeId→List Value→Option (DataW H × List MemPlace)}{cs:List Value}
  (ih:∀ t cs x l,q t cs=some x→f t=some l→∃ ds,FitCs w l cs ds):∀ {r:List Field} {o:Nat} {xs:List (DataW H × List MemPlace)} {l:List CS},
  (r.mapM fun fd=>q fd.type ((cs.drop fd.offset).take (P.cellsOf fd.type)))=some xs→shapeF P f r o=some l→∃ ds,FitCs w l ((cs.drop o).take l.length) ds
 | [],o,xs,l,_,h=>by simp [shapeF] at h; subst h; exact⟨[],by simpa using FitCs.nil⟩
 | fd::r,o,xs,l,hm,h=>by
  simp only[shapeF] at h
  split at h
  ·rename_i l1 h1
   split at h
   ·rename_i hc
    obtain⟨rfl,hlen⟩:=hc
    split at h
    ·rename_i l2 h2
     simp at h; subst h
     simp only[List.mapM_cons,Option.bind_eq_bind,Option.bind_eq_some_iff] at hm
     obtain⟨y,hy,ys,hys,_⟩:=hm
     obtain⟨d1,k1⟩:=ih _ _ _ _ hy h1
     obtain⟨d2,k2⟩:=fit_fields ih hys h2
     rw[hlen] at k1
     exact⟨d1++d2,by rw[List.length_append,take_split]; exact k1.append k2⟩
    ·simp at h
   ·simp at h
  ·simp at h
theorem fit_array {l:List CS}{cs:List Value}{size:Nat}(hl:size=l.length):∀ {m o:Nat},(∀ i,i<m→∃ ds,FitCs w l ((cs.drop ((o+i)*size)).take size) ds)→∃ ds,FitCs w (repC l m) ((cs.drop (o*size)).take (repC l m).length) ds
 | 0,o,_=>⟨[],by simp only[repC,List.length_nil,List.take_zero]; exact FitCs.nil⟩
 | m+1,o,h=>by
  obtain⟨d1,k1⟩:=h 0 (by omega)
  obtain⟨d2,k2⟩:=fit_array (o:=o+1) hl (m:=m) (fun i hi=>by have:=h (i+1) (by omega); rwa [show o+(i+1)=o+1+i by omega] at this)
  rw[Nat.add_zero] at k1
  rw[Nat.add_mul,Nat.one_mul] at k2
  exact⟨d1++d2,by simp only[repC]; rw[List.length_append,← hl,take_split]; exact k1.append k2⟩
theorem spot_none {w:World}{a:Addr}{v:Value}(h:w.cell? a=some v):a.spot=none∧∃ vs e fz,w.heap[a.block]?=some (.cells vs e fz)∧vs[a.off]?=some v:=by
 unfold World.cell? at h
 split at h
 ·rename_i c e fz hc
  split at h
  ·simp at h
  ·rename_i hs
   exact⟨by simpa using hs,c,e,fz,hc,h⟩
 ·simp at h
theorem slI_no {pat:List CK}{q:Nat}:SlI w pat CD.no q:=⟨Int.le_refl _,Int.le_refl _,Int.le_refl _,by simp [CD.no],fun h=>by simp [CD.no] at h,fun _=>rfl⟩
theorem slI_nil {pat:List CK}{q:Nat}:SlI w pat { CD.no with b:=fun q=>q == 1 } q:=⟨Int.le_refl _,Int.le_refl _,Int.le_refl _,by simp [CD.no],fun h=>by simp at h; omega,fun _=>rfl⟩
theorem slV_nil:SlV { CD.no with b:=fun q=>q == 1 } 0 (.slice none 0 0):=⟨fun h=>by simp at h,fun _=>⟨fun _=>rfl,fun h=>by simp at h⟩⟩
structure Sub1 (d:CD) (q:Nat) (x:CD):Prop where
 i:∀ r,r<3→d.i (3*q+r)=x.i r
 b:∀ r,r<2→d.b (2*q+r)=x.b r
 row:d.row q=x.row 0
 loc:d.loc q=x.loc 0
theorem Sub1.slI {d x:CD}{q:Nat}(h:Sub1 d q x) {pat:List CK}(k:SlI w pat x 0):SlI w pat d q:=by
 have i0:=h.i 0 (by omega); have i1:=h.i 1 (by omega); have i2:=h.i 2 (by omega); have b0:=h.b 0 (by omega)
 rw[Nat.add_zero] at i0 b0
 unfold SlI at k ⊢
 rw[i0,i1,i2,b0,h.row,h.loc]
 exact k
theorem Sub1.slV {d x:CD}{q:Nat}(h:Sub1 d q x) {v:Value}(k:SlV x 0 v):SlV d q v:=by
 have i0:=h.i 0 (by omega); have i1:=h.i 1 (by omega); have i2:=h.i 2 (by omega); have b0:=h.b 0 (by omega); have b1:=h.b 1 (by omega)
 rw[Nat.add_zero] at i0 b0
 unfold SlV at k ⊢
 rw[i0,i1,i2,b0,b1,h.loc]
 exact k
theorem fit_trod:∀ {m n:Nat}{t:TypeId}{cs:List Value}{x:DataW H × List MemPlace}{l:List CS},DataW.trod enc P w 0 (fun _=>true) true n t cs=some x→shapeT P m t=some l→∃ ds,FitCs w l cs ds
 | 0,_,_,_,_,_,_,h=>by simp [shapeT] at h
 | m+1,0,_,_,_,_,h,_=>by simp [DataW.trod] at h
 | m+1,n+1,t,cs,x,l,h,hs=>by
  simp only[shapeT] at hs
  split at hs
  ·-- a truth
   rename_i ht
   simp at hs; subst hs
   simp only[DataW.trod,ht] at h
   split at h <;> simp_all
   rename_i b
   exact⟨[{ CD.no with b:=fun _=>b }],⟨rfl,fun _=>rfl⟩,trivial⟩
  ·-- a number
   rename_i k ht
   simp at hs; subst hs
   simp only[DataW.trod,ht] at h
   split at h <;> simp_all
   rename_i k' k'' z hk
   obtain⟨⟨hk1,hwf⟩,_⟩:=h
   have hb:=wf_fits hwf
   exact⟨[{ CD.no with i:=fun q=>if q=0 then z else 0 }],⟨by simp,by simpa using hb.1,by simpa using hb.2,fun _=>rfl⟩,trivial⟩
  ·-- a slice
   rename_i e ht
   split at hs
   ·-- of slices
    rename_i pat e' hl'
    split at hs
    case isFalse=>simp at hs
    rename_i hcell
    simp at hs; subst hs
    rcases Go.Deep.open_slice ht h with ⟨rfl,_⟩ | ⟨a,len,cap,m',n',D,Pl,rfl,_,hle,hmax,hm',_,hel⟩
    ·exact⟨[{ CD.no with b:=fun q=>q == 1 }],⟨⟨Int.le_refl _,Int.le_refl _,Int.le_refl _,by simp [CD.no],fun h=>by simp at h,fun _=>rfl⟩,slV_nil,fun j _=>slI_nil,fun _ _=>rfl⟩,trivial⟩
    ·have hmc:m'=cap:=by simpa using hm'
     subst hmc
     by_cases h0:m'=0
     ·subst h0
      obtain rfl:len=0:=by omega
      exact⟨[CD.no],⟨⟨Int.le_refl _,Int.le_refl _,Int.le_refl _,by simp [CD.no],fun h=>by simp [CD.no] at h,fun _=>rfl⟩,⟨fun h=>by simp [CD.no] at h,fun _=>⟨fun h=>by simp [CD.no] at h,fun _=>⟨a,rfl⟩⟩⟩,fun j _=>slI_no,fun _ _=>rfl⟩,trivial⟩
     ·have hat:∀ i,i<m'→∃ u d,w.cell? (a.add i)=some u∧SlI w pat d 0∧SlV d 0 u:=by
       intro i hi
       obtain⟨cs',h1,h2⟩:=hel i hi
       obtain⟨ds',hds'⟩:=fit_trod h2 hl'
       obtain⟨_,_,h4⟩:=World.cells?_some h1
       rw[hcell] at h4
       match cs',ds',hds' with
       | [u],[d],hds' =>
        have:=h4 0 (by omega)
        simp only[Addr.add,Nat.mul_one] at this
        refine⟨u,d,?_,hds'.1.1,hds'.1.2.1⟩
        simpa [Addr.add] using this
       | [],_,hds'=>cases ‹List CD› <;> simp [FitCs] at hds'
       | _::_,[],hds'=>simp [FitCs] at hds'
       | _::_::_,_::_,hds'=>have:=hds'.2; cases ‹List CD› <;> simp [FitCs] at this
       | [_],_::_::_,hds'=>simp [FitCs] at hds'
      obtain⟨u0,d0,hc0,_⟩:=hat 0 (by omega)
      have e0:a.add 0=a:=by simp [Addr.add]
      rw[e0] at hc0
      obtain⟨hsp,vs,e'',fz,hblk,_⟩:=spot_none hc0
      obtain⟨b,off,sp⟩:=a
      simp only at hsp hblk
      subst hsp
      have hall:∀ j:Nat,∃ d:CD,SlI w pat d 0∧(j<len→∃ u,vs[off+j]?=some u∧SlV d 0 u):=by
       intro j
       by_cases hj:j<len
       ·obtain⟨u,d,k1,k2,k3⟩:=hat j (by omega)
        rw[add_none] at k1
        obtain⟨_,vs',e3,fz',hb',hv'⟩:=spot_none k1
        simp only at hb' hv'
        rw[hblk] at hb'
        simp only[Option.some.injEq,Obj.cells.injEq] at hb'
        obtain⟨rfl,_,_⟩:=hb'
        exact⟨d,k2,fun _=>⟨u,hv',k3⟩⟩
       ·exact⟨CD.no,slI_no,fun h=>absurd h hj⟩
      obtain⟨D,hD⟩:=Classical.axiomOfChoice hall
      let d:CD :=
       {i:=fun q=>if q=0 then (off:Int) else if q=1 then (len:Int) else if q=2 then (m':Int) else (D ((q-3) / 3)).i ((q-3) % 3)
        b:=fun q=>if q<2 then true else (D ((q-2) / 2)).b ((q-2) % 2)
        row:=fun q=>(D (q-1)).row 0
        loc:=fun q=>if q=0 then some b else if q<9 then (D (q-1)).loc 0 else none }
      have hsub:∀ j,j<8→Sub1 d (j+1) (D j):=fun j hj=>⟨by
        intro r hr
        show (if 3*(j+1)+r=0 then (off:Int) else if 3*(j+1)+r=1 then (len:Int) else if 3*(j+1)+r=2 then (m':Int) else (D ((3*(j+1)+r-3) / 3)).i ((3*(j+1)+r-3) % 3))=(D j).i r
        rw[if_neg (by omega),if_neg (by omega),if_neg (by omega),show (3*(j+1)+r-3) / 3=j by omega,show (3*(j+1)+r-3) % 3=r by omega],by
        intro r hr
        show (if 2*(j+1)+r<2 then true else (D ((2*(j+1)+r-2) / 2)).b ((2*(j+1)+r-2) % 2))=(D j).b r
        rw[if_neg (by omega),show (2*(j+1)+r-2) / 2=j by omega,show (2*(j+1)+r-2) % 2=r by omega],rfl,by
        show (if j+1=0 then some b else if j+1<9 then (D (j+1-1)).loc 0 else none)=(D j).loc 0
        rw[if_neg (by omega),if_pos (by omega),show j+1-1=j by omega]⟩
      refine⟨[d],⟨⟨?_,?_,?_,?_,fun _=>⟨b,vs,e'',fz,rfl,hblk,fun j hj hjl=>?_⟩,fun h=>by simp [d] at h⟩,⟨fun _=>⟨b,rfl,?_⟩,fun h=>by simp [d] at h⟩,fun j hj=>(hsub j hj).slI (hD j).1,fun q hq=>?_⟩,trivial⟩
      ·simp [d]
      ·simp [d]
      ·simpa [d] using hle
      ·simpa [d] using hmax
      ·have hjl':j<len:=by simpa [d] using hjl
       obtain⟨u,k1,k2⟩:=(hD j).2 hjl'
       exact⟨u,by simpa [d] using k1,(hsub j hj).slV k2⟩
      ·simp [d]
      ·show (if q=0 then some b else if q<9 then (D (q-1)).loc 0 else none)=none
       rw[if_neg (by omega),if_neg (by omega)]
   case h_3=>simp at hs
   rename_i l' _ hl'
   split at hs
   case h_2=>simp at hs
   rename_i pat hpat
   split at hs
   case isFalse=>simp at hs
   rename_i hc
   obtain⟨hcell,hp0⟩:=hc
   simp at hs; subst hs
   have hp:0<pat.length:=List.length_pos_iff.2 hp0
   rcases Go.Deep.open_slice ht h with ⟨rfl,_⟩ | ⟨a,len,cap,m',n',D,Pl,rfl,_,hle,hmax,hm',_,hel⟩
   ·exact⟨[{ CD.no with b:=fun q=>q == 1 }],⟨slI_nil,slV_nil,fun _ _=>rfl⟩,trivial⟩
   ·have hmc:m'=cap:=by simpa using hm'
    subst hmc
    by_cases h0:m'=0
    ·subst h0
     obtain rfl:len=0:=by omega
     exact⟨[CD.no],⟨slI_no,⟨fun h=>by simp [CD.no] at h,fun _=>⟨fun h=>by simp [CD.no] at h,fun _=>⟨a,rfl⟩⟩⟩,fun _ _=>rfl⟩,trivial⟩
    ·-- where it lies
     have hat:∀ i,i<m'→∀ c,c<pat.length→∃ ck n,pat[c]?=some ck∧w.cell? ((a.add (i*pat.length)).add c)=some (ck.val n):=by
      intro i hi c hc
      obtain⟨cs',h1,h2⟩:=hel i hi
      obtain⟨ds',hds'⟩:=fit_trod h2 hl'
      obtain⟨_,h3⟩:=FitCs.cks hpat hds'
      obtain⟨ck,n,k1,k2⟩:=h3 c hc
      obtain⟨_,_,h4⟩:=World.cells?_some h1
      rw[hcell] at h4
      exact⟨ck,n,k1,(h4 c hc).trans k2⟩
     obtain⟨ck0,n0,_,hc0⟩:=hat 0 (by omega) 0 hp
     have e0:(a.add (0*pat.length)).add 0=a:=by simp [Addr.add]
     rw[e0] at hc0
     obtain⟨hsp,vs,e',fz,hblk,_⟩:=spot_none hc0
     obtain⟨b,off,sp⟩:=a
     simp only at hsp hblk
     subst hsp
     have hall:∀ j:Nat,∃ n:Int,j<len*pat.length→∃ ck,pat[j % pat.length]?=some ck∧vs[off+j]?=some (ck.val n):=by
      intro j
      by_cases hj:j<len*pat.length
      ·have hi:j / pat.length<len:=by
        rw[Nat.div_lt_iff_lt_mul hp]; exact hj
       obtain⟨ck,n,k1,k2⟩:=hat (j / pat.length) (by omega) (j % pat.length) (Nat.mod_lt _ hp)
       rw[add_none,add_none] at k2
       obtain⟨_,vs',e'',fz',hb',hv'⟩:=spot_none k2
       simp only at hb' hv'
       rw[hblk] at hb'
       simp only[Option.some.injEq,Obj.cells.injEq] at hb'
       obtain⟨rfl,_,_⟩:=hb'
       refine⟨n,fun _=>⟨ck,k1,?_⟩⟩
       rw[← hv']
       have:=Nat.div_add_mod' j pat.length
       congr 1; omega
      ·exact⟨0,fun h=>absurd h hj⟩
     obtain⟨f,hf⟩:=Classical.axiomOfChoice hall
     refine⟨[{ i:=fun q=>if q=0 then (off:Int) else if q=1 then (len:Int) else (m':Int),b:=fun _=>true,row:=fun _ z=>f z.toNat,loc:=fun q=>if q=0 then some b else none }],⟨⟨?_,?_,?_,?_,fun _=>⟨b,vs,e',fz,rfl,hblk,?_⟩,fun h=>by simp at h⟩,⟨fun _=>⟨b,rfl,?_⟩,fun h=>by simp at h⟩,fun q hq=>if_neg (by omega)⟩,trivial⟩
     ·simp
     ·simp
     ·simpa using hle
     ·simpa using hmax
     ·intro j hj
      simp only[Nat.mul_zero,Nat.zero_add,if_pos] at hj ⊢
      exact hf j (by simpa using hj)
     ·simp
  ·-- a struct
   rename_i fs ht
   split at hs
   case h_2=>simp at hs
   rename_i l' hl'
   split at hs
   case isFalse=>simp at hs
   rename_i hc
   simp at hs; subst hs
   simp only[DataW.trod,ht] at h
   split at h
   ·rename_i hcl
    simp only[Option.map_eq_some_iff] at h
    obtain⟨xs,hxs,_⟩:=h
    obtain⟨ds,hds⟩:=fit_fields (f:=shapeT P m) (q:=DataW.trod enc P w 0 (fun _=>true) true n) (cs:=cs) (fun t cs x l h1 h2=>fit_trod h1 h2) hxs hl'
    exact⟨ds,by rw[List.drop_zero,List.take_of_length_le (by omega)] at hds; exact hds⟩
   ·simp at h
  ·-- an array
   rename_i k e ht
   split at hs
   case h_2=>simp at hs
   rename_i l' hl'
   split at hs
   case isFalse=>simp at hs
   rename_i hc
   obtain⟨hc1,hc2⟩:=hc
   simp at hs; subst hs
   simp only[DataW.trod,ht] at h
   split at h
   ·rename_i hcl
    simp only[Option.map_eq_some_iff] at h
    obtain⟨xs,hxs,_⟩:=h
    obtain⟨ds,hds⟩:=fit_array (w:=w) (cs:=cs) (o:=0) hc1 (m:=k) (fun i hi=>by
     obtain⟨y,hy⟩:=mapM_all hxs i (by simpa using hi)
     rw[Nat.zero_add]
     exact fit_trod hy hl')
    exact⟨ds,by rw[Nat.zero_mul,List.drop_zero,List.take_of_length_le (by omega)] at hds; exact hds⟩
   ·simp at h
  ·simp at hs
def FitP (w:World):List (Bool × List CS)→List Value→List CD→Prop
 | [],vs,ds=>vs=[]∧ds=[]
 | (true,l)::r,vs,ds=>∃ cs us d1 d2,vs=.agg cs.toArray::us∧FitCs w l cs d1∧ds=d1++d2∧FitP w r us d2
 | (false,l)::r,vs,ds=>∃ v us d1 d2,vs=v::us∧FitCs w l [v] d1∧ds=d1++d2∧FitP w r us d2
theorem param_fit {t:TypeId}{v:Value}{d:DataW H}{p:List MemPlace}{a:Bool}{l:List CS}(hok:Value.okWide P w .any 0 t v) (h:DataW.Trod enc P w 0 (fun _=>true) true t v d p) (hs:paramSh P t=some (a,l)) :
  (a=true→∃ cs ds,v=.agg cs.toArray∧FitCs w l cs ds)∧(a=false→∃ ds,FitCs w l [v] ds):=by
 obtain⟨n,hn⟩:=h
 unfold paramSh at hs
 split at hs
 case h_2=>simp at hs
 rename_i l' hl'
 obtain⟨ds,hds⟩:=fit_trod hn hl'
 unfold Value.okWide at hok
 split at hs
 ·rename_i fs ht
  simp at hs; obtain⟨rfl,rfl⟩:=hs
  simp only[ht] at hok
  obtain⟨cs,rfl,_⟩:=hok
  exact⟨fun _=>⟨cs.toList,ds,by simp,by simpa [Value.cells] using hds⟩,fun h=>by simp at h⟩
 ·rename_i k e ht
  simp at hs; obtain⟨rfl,rfl⟩:=hs
  simp only[ht] at hok
  obtain⟨cs,rfl,_⟩:=hok
  exact⟨fun _=>⟨cs.toList,ds,by simp,by simpa [Value.cells] using hds⟩,fun h=>by simp at h⟩
 ·rename_i h1 h2
  split at hs
  case isFalse=>simp at hs
  rename_i hlen
  simp at hs; obtain⟨rfl,rfl⟩:=hs
  refine⟨fun h=>by simp at h,fun _=>⟨ds,?_⟩⟩
  have hsh:=hl'
  simp only[shapeT] at hsh
  have key:∀ u:Value,(∀ cs,u≠.agg cs)→u.cells.toList=[u]:=by
   intro u hu
   cases u <;> first | rfl | exact absurd rfl (hu _)
  rw[key v] at hds
  ·exact hds
  ·intro cs hcs
   subst hcs
   split at hok
   ·rename_i ht; exact h1 _ ht
   ·rename_i ht; exact h2 _ _ ht
   ·split at hsh
    all_goals first
     | (simp at hsh; done)
     | (rename_i ht; exact h1 _ ht)
     | (rename_i ht; exact h2 _ _ ht)
     | (rename_i ht; simp [Cell.okWide,Cell.ok,ht] at hok)
theorem args_fit {ts:List TypeId}:∀ {vs:List Value}{ds:List (DataW H)}{ps:List MemPlace}{shs:List (Bool × List CS)},DataW.TrodAll enc P w 0 (fun _=>true) true ts vs ds ps→(∀ (j:Nat) t v,ts[j]?=some t→vs[j]?=some v→Value.okWide P w .any 0 t v) →
  paramShs P ts=some shs→∃ cds,FitP w shs vs cds:=by
 induction ts with
 | nil =>
  intro vs ds ps shs h _ hs
  simp [paramShs] at hs; subst hs
  exact⟨[],(trodAll_nil h).1,rfl⟩
 | cons t r ih =>
  intro vs ds ps shs h hok hs
  obtain⟨v,us,d,ds',p,q,rfl,rfl,rfl,h1,h2⟩:=trodAll_cons h
  simp only[paramShs] at hs
  split at hs
  ·rename_i a b ha hb
   simp at hs; subst hs
   obtain⟨d2,k2⟩:=ih h2 (fun j t v ht hv=>hok (j+1) t v (by simpa using ht) (by simpa using hv)) hb
   obtain⟨ag,l⟩:=a
   obtain⟨k3,k4⟩:=param_fit (hok 0 t v rfl rfl) h1 ha
   cases ag with
   | true=>obtain⟨cs,d1,rfl,k5⟩:=k3 rfl; exact⟨d1++d2,cs,us,d1,d2,rfl,k5,rfl,k2⟩
   | false=>obtain⟨d1,k5⟩:=k4 rfl; exact⟨d1++d2,v,us,d1,d2,rfl,k5,rfl,k2⟩
  ·simp at hs
theorem args_stay {ts:List TypeId}(hl:laidOutB P=true) (hts:(ts.all fun t=>P.readableRec t&&decide (t<P.types.size))=true) {W W':World}(hb:Below W.heap.size W W'):∀ {vs:List Value}{ds:List (DataW H)}{ps:List MemPlace},
  DataW.TrodAll enc P W 0 (fun _=>true) true ts vs ds ps→(∀ x ∈ ps,x.block<W.heap.size)→DataW.TrodAll enc P W' 0 (fun b=>decide (b<W.heap.size)) true ts vs ds ps:=by
 induction ts with
 | nil=>intro vs ds ps h _; obtain⟨rfl,rfl,rfl⟩:=trodAll_nil h; exact trodAll_mk0
 | cons t r ih =>
  intro vs ds ps h hlt
  simp only[List.all_cons,Bool.and_eq_true,decide_eq_true_eq] at hts
  obtain⟨v,us,d,ds',p,q,rfl,rfl,rfl,h1,h2⟩:=trodAll_cons h
  exact⟨p,q,Below.trod hl hts.1.1 hts.1.2 h1 hb (fun x hx=>hlt x (by simp [hx])),ih (by simpa using hts.2) h2 (fun x hx=>hlt x (by simp [hx])),rfl⟩
open Go.ChangeShapes Go.WideShapes in
theorem post_args {f:Func}{s:ChangeSpec}{apart fresh handsOn:Bool}{W W':World}{args:Array Value}{v:Value}{ds gs:List (DataW H)}{before pa pv:List MemPlace}
  (hW:DataW.Whole enc P f.params.toList s.vars apart W args.toList ds gs before)
  (hres:∀ (b:Nat) (sp:Nat→Bool) (hd:Bool),DataW.TrodAll enc P W' b sp hd f.resultTypes.toList (v.resultList f.resultTypes.size) (s.fn H (ds++gs)).results [])
  (hargs:DataW.TrodAll enc P W' 0 (fun b=>decide (b<W.heap.size)) true f.params.toList args.toList (s.fn H (ds++gs)).args pa)
  (hvars:∀ sp:Nat→Bool,(∀ p ∈ before,sp p.block=true)→DataW.TrodVars enc P W' sp s.vars (s.fn H (ds++gs)).vars pv)
  (hb:Below W.heap.size W W'):s.post enc P f apart fresh handsOn false W args v W':=by
 have hold:∀ p ∈ before,(fun b=>decide (b<W.heap.size)) p.block=true:=fun p hp=>by simpa using hW.lt p hp
 exact⟨ds,gs,before,[],pa,pv,hW,hres _ _ _,hargs,hvars _ hold,hb.frame _,fun h=>by simp at h⟩
end
def dget (ds:List CD) (c:Nat):CD:=ds.getD c CD.no
def envC (ds:List CD):Env:={ loc:=fun c=>(dget ds (c / 9)).loc (c % 9),cap:=fun _=>0,int:=fun i=>(dget ds (i / 27)).i (i % 27),bool:=fun i=>(dget ds (i / 18)).b (i % 18),row:=fun c=>(dget ds (c / 9)).row (c % 9),val:=fun _=>undef }
section
variable {ds:List CD} {c:Nat}
theorem envC_i {q:Nat}(h:q<27):(envC ds).int (27*c+q)=(dget ds c).i q:=by
 simp only[envC]; rw[show (27*c+q) / 27=c by omega,show (27*c+q) % 27=q by omega]
theorem envC_b {q:Nat}(h:q<18):(envC ds).bool (18*c+q)=(dget ds c).b q:=by
 simp only[envC]; rw[show (18*c+q) / 18=c by omega,show (18*c+q) % 18=q by omega]
theorem envC_l {q:Nat}(h:q<9):(envC ds).loc (9*c+q)=(dget ds c).loc q:=by
 simp only[envC]; rw[show (9*c+q) / 9=c by omega,show (9*c+q) % 9=q by omega]
theorem envC_r {q:Nat}(h:q<9):(envC ds).row (9*c+q)=(dget ds c).row q:=by
 simp only[envC]; rw[show (9*c+q) / 9=c by omega,show (9*c+q) % 9=q by omega]
theorem slV_rel {q:Nat}(hq:q<9) {v:Value}(h0:0≤(dget ds c).i (3*q)) (h:SlV (dget ds c) q v):VRel (envC ds) (avS c q) v:=by
 obtain⟨h4,h5⟩:=h
 simp only[avS,VRel,SB.den,SI.den,envC_b (show 2*q<18 by omega),envC_b (show 2*q+1<18 by omega),envC_i (show 3*q<27 by omega),envC_i (show 3*q+1<27 by omega),envC_i (show 3*q+2<27 by omega),envC_l hq]
 refine⟨fun hb=>?_,fun hb=>⟨fun hc=>(h5 hb).1 hc,fun hc=>?_⟩⟩
 ·obtain⟨b,k1,k2⟩:=h4 hb
  exact⟨b,k1,h0,k2⟩
 ·obtain⟨a,ha⟩:=(h5 hb).2 hc
  exact⟨a,0,fun _=>rfl,ha⟩
theorem cell_rel {x:CS}{v:Value}(h:FitC w x v (dget ds c)):VRel (envC ds) (avC c x) v:=by
 cases x with
 | int k =>
  have:=envC_i (ds:=ds) (c:=c) (show 0<27 by omega)
  rw[Nat.add_zero] at this
  simp only[avC,VRel,SI.den,this]; exact h.1
 | bool =>
  have:=envC_b (ds:=ds) (c:=c) (show 0<18 by omega)
  rw[Nat.add_zero] at this
  simp only[avC,VRel,SB.den,this]; exact h.1
 | slice pat e=>exact slV_rel (by omega) h.1.1 h.2.1
 | slices pat e e2=>exact slV_rel (by omega) h.1.1 h.2.1
theorem dget_cons {d:CD}{ds:List CD}{j:Nat}:dget (d::ds) (j+1)=dget ds j:=by simp [dget]
theorem cells_rel:∀ {l:List CS}{vs:List Value}{dl:List CD}{c:Nat},FitCs w l vs dl→(∀ j,j<dl.length→dget ds (c+j)=dget dl j)→VRelL (envC ds) (avCs l c) vs
 | [],[],[],_,_,_=>VRelL.nil
 | x::l,v::vs,d::dl,c,h,he=>by
  refine VRelL.cons (cell_rel (w:=w) ?_) (cells_rel h.2 (fun j hj=>by
   have:=he (j+1) (by simp; omega)
   rw[dget_cons] at this
   rw[show c+1+j=c+(j+1) by omega]; exact this))
  have:=he 0 (by simp)
  rw[Nat.add_zero] at this
  rw[this]; exact h.1
 | [],_::_,_,_,h,_=>by cases ‹List CD› <;> simp [FitCs] at h
 | [],[],_::_,_,h,_=>by simp [FitCs] at h
 | _::_,[],_,_,h,_=>by cases ‹List CD› <;> simp [FitCs] at h
 | _::_,_::_,[],_,h,_=>by simp [FitCs] at h
theorem VRelL.app {E:Env}:∀ {a b:List AV}{u v:List Value},VRelL E a u→VRelL E b v→VRelL E (a++b) (u++v)
 | [],_,u,_,h,k=>by simp only[VRelL] at h; subst h; exact k
 | x::a,b,u,v,h,k=>by
  obtain⟨y,ys,h1,h2,rfl⟩:=h
  exact⟨y,ys++v,h1,VRelL.app h2 k,rfl⟩
theorem dget_app1 {a b:List CD}{j:Nat}(h:j<a.length):dget (a++b) j=dget a j:=by simp [dget,List.getD,List.getElem?_append_left h]
theorem dget_app2 {a b:List CD}{j:Nat}:dget (a++b) (a.length+j)=dget b j:=by simp [dget,List.getD,List.getElem?_append_right]
theorem params_rel:∀ {shs:List (Bool × List CS)}{vs:List Value}{dl:List CD}{c:Nat},FitP w shs vs dl→(∀ j,j<dl.length→dget ds (c+j)=dget dl j)→VRelL (envC ds) (avP shs c) vs
 | [],vs,dl,c,h,_=>by obtain⟨rfl,_⟩:=h; exact VRelL.nil
 | (true,l)::r,vs,dl,c,h,he=>by
  obtain⟨cs,us,d1,d2,rfl,h1,rfl,h2⟩:=h
  refine VRelL.cons ?_ (params_rel h2 (fun j hj=>?_))
  ·simp only[VRel]
   exact⟨cs,cells_rel h1 (fun j hj=>by rw[he j (by simp; omega),dget_app1 hj]),rfl⟩
  ·rw[← (h1.length).2,Nat.add_assoc,he (d1.length+j) (by simp; omega),dget_app2]
 | (false,l)::r,vs,dl,c,h,he=>by
  obtain⟨v,us,d1,d2,rfl,h1,rfl,h2⟩:=h
  refine VRelL.app (u:=[v]) (cells_rel h1 (fun j hj=>by rw[he j (by simp; omega),dget_app1 hj])) (params_rel h2 (fun j hj=>?_))
  rw[← (h1.length).2,Nat.add_assoc,he (d1.length+j) (by simp; omega),dget_app2]
theorem FitP.cells:∀ {shs:List (Bool × List CS)}{vs:List Value}{dl:List CD},FitP w shs vs dl→∃ us,FitCs w (cellsP shs) us dl
 | [],vs,dl,h=>by obtain⟨_,rfl⟩:=h; exact⟨[],trivial⟩
 | (true,l)::r,vs,dl,h=>by
  obtain⟨cs,us,d1,d2,rfl,h1,rfl,h2⟩:=h
  obtain⟨q,hq⟩:=FitP.cells h2
  exact⟨cs++q,h1.append hq⟩
 | (false,l)::r,vs,dl,h=>by
  obtain⟨v,us,d1,d2,rfl,h1,rfl,h2⟩:=h
  obtain⟨q,hq⟩:=FitP.cells h2
  exact⟨[v]++q,h1.append hq⟩
theorem FitC.sub {x:CS}{v:Value}{d:CD}(h:FitC w x v d) {q:Nat}(hq:q<x.subs):0≤d.i (3*q)∧0≤d.i (3*q+1)∧d.i (3*q+1)≤d.i (3*q+2)∧d.i (3*q+2)≤maxLen:=by
 cases x with
 | int k=>simp [CS.subs] at hq
 | bool=>simp [CS.subs] at hq
 | slice pat e =>
  obtain rfl:q=0:=by simp [CS.subs] at hq; exact hq
  exact⟨h.1.1,h.1.2.1,h.1.2.2.1,h.1.2.2.2.1⟩
 | slices pat e e2 =>
  cases q with
  | zero=>exact⟨h.1.1,h.1.2.1,h.1.2.2.1,h.1.2.2.2.1⟩
  | succ q =>
   have:=h.2.2.1 q (by simp [CS.subs] at hq; omega)
   exact⟨this.1,this.2.1,this.2.2.1,this.2.2.2.1⟩
theorem rngS_get:∀ {n i:Nat}{r:Int × Int},(rngS n)[i]?=some (some r)→i / 3<n∧i % 3≠0∧r=(0,9223372036854775807)
 | 0,i,r,h=>by simp [rngS] at h
 | n+1,0,r,h=>by simp [rngS] at h
 | n+1,1,r,h=>by simp [rngS] at h; exact⟨by omega,by omega,h.symm⟩
 | n+1,2,r,h=>by simp [rngS] at h; exact⟨by omega,by omega,h.symm⟩
 | n+1,i+3,r,h=>by
  obtain⟨h1,h2,h3⟩:=rngS_get (n:=n) (i:=i) (by simpa [rngS] using h)
  exact⟨by omega,by omega,h3⟩
theorem rngS_len:∀ n,(rngS n).length=3*n
 | 0=>rfl
 | n+1=>by simp [rngS,rngS_len n]; omega
theorem rep_none {n i:Nat}{r:Int × Int}(h:(List.replicate n (none:Option (Int × Int)))[i]?=some (some r)):False:=by
 rw[List.getElem?_replicate] at h
 split at h <;> simp at h
theorem rngC1_sub {x:CS}{v:Value}{d:CD}(h:FitC w x v d) {i:Nat}{r:Int × Int}(hr:(rngS x.subs++List.replicate (27-3*x.subs) none)[i]?=some (some r)):r.1≤d.i i∧d.i i≤r.2:=by
 have hm:((maxLen:Nat):Int)=9223372036854775807:=by decide
 by_cases hi:i<(rngS x.subs).length
 ·rw[List.getElem?_append_left hi] at hr
  obtain⟨h1,h2,rfl⟩:=rngS_get hr
  obtain⟨k0,k1,k2,k3⟩:=h.sub h1
  have hc:i=3*(i / 3)+1∨i=3*(i / 3)+2:=by omega
  rcases hc with e | e <;> (rw[e]; simp only; omega)
 ·rw[List.getElem?_append_right (by omega)] at hr
  exact(rep_none hr).elim
theorem rngC1_ok {x:CS}{v:Value}{d:CD}(h:FitC w x v d) {i:Nat}{r:Int × Int}(hr:(rngC1 x)[i]?=some (some r)):r.1≤d.i i∧d.i i≤r.2:=by
 cases x with
 | int k =>
  obtain⟨_,h1,h2,_⟩:=h
  cases i with
  | zero=>simp [rngC1] at hr; subst hr; exact⟨h1,h2⟩
  | succ i =>
   simp only[rngC1,List.getElem?_cons_succ] at hr
   exact(rep_none hr).elim
 | bool=>exact rngC1_sub h hr
 | slice pat e=>exact rngC1_sub h hr
 | slices pat e e2=>exact rngC1_sub h hr
theorem rngC1_len (x:CS):(rngC1 x).length=27:=by cases x <;> rfl
theorem rngC_ok:∀ {l:List CS}{us:List Value}{dl:List CD},FitCs w l us dl→∀ {i:Nat}{r:Int × Int},(rngC l)[i]?=some (some r)→r.1≤(dget dl (i / 27)).i (i % 27)∧(dget dl (i / 27)).i (i % 27)≤r.2
 | [],_,_,_,i,r,hr=>by simp [rngC] at hr
 | x::l,v::us,d::dl,h,i,r,hr=>by
  simp only[rngC] at hr
  by_cases hi:i<27
  ·rw[List.getElem?_append_left (by rw[rngC1_len]; exact hi)] at hr
   rw[show i / 27=0 by omega,show i % 27=i by omega]
   exact rngC1_ok h.1 hr
  ·rw[List.getElem?_append_right (by rw[rngC1_len]; omega),rngC1_len] at hr
   have:=rngC_ok h.2 hr
   rw[show i / 27=(i-27) / 27+1 by omega,dget_cons,show i % 27=(i-27) % 27 by omega]
   exact this
 | _::_,[],_,h,_,_,_=>by cases ‹List CD› <;> simp [FitCs] at h
 | _::_,_::_,[],h,_,_,_=>by simp [FitCs] at h
theorem asmS_mem {c:Nat}:∀ {n:Nat}{p:SB × Bool},p ∈ asmS c n→∃ q,q<n∧p=(.lss (.var (27*c+(3*q+2))) (.var (27*c+(3*q+1))),false)
 | 0,p,h=>by simp [asmS] at h
 | n+1,p,h=>by
  simp only[asmS,List.mem_cons] at h
  rcases h with rfl | h
  ·exact⟨n,by omega,rfl⟩
  ·obtain⟨q,h1,h2⟩:=asmS_mem h
   exact⟨q,by omega,h2⟩
theorem asmC_mem:∀ {l:List CS}{c:Nat}{p:SB × Bool},p ∈ asmC l c→∃ j x q,l[j]?=some x∧q<x.subs∧p=(.lss (.var (27*(c+j)+(3*q+2))) (.var (27*(c+j)+(3*q+1))),false)
 | [],_,_,h=>by simp [asmC] at h
 | x::r,c,p,h=>by
  simp only[asmC,List.mem_append] at h
  rcases h with h | h
  ·obtain⟨q,h1,h2⟩:=asmS_mem h
   exact⟨0,x,q,rfl,h1,h2⟩
  ·obtain⟨j,y,q,h1,h2,h3⟩:=asmC_mem (l:=r) (c:=c+1) h
   exact⟨j+1,y,q,by simpa using h1,h2,by rw[h3,show c+1+j=c+(j+1) by omega]⟩
theorem gsS_mem {x:CS}{c:Nat}:∀ {n:Nat}{g:SB × List (Nat × AB)},g ∈ gsS x c n→∃ q,q<n∧g=(.var (18*c+2*q),[(9*c+q,blkS x c q)])
 | 0,g,h=>by simp [gsS] at h
 | n+1,g,h=>by
  simp only[gsS,List.mem_append,List.mem_singleton] at h
  rcases h with h | rfl
  ·obtain⟨q,h1,h2⟩:=gsS_mem h
   exact⟨q,by omega,h2⟩
  ·exact⟨n,by omega,rfl⟩
theorem gsC_mem:∀ {l:List CS}{c:Nat}{g:SB × List (Nat × AB)},g ∈ gsC l c→∃ j x q,l[j]?=some x∧q<x.subs∧g=(.var (18*(c+j)+2*q),[(9*(c+j)+q,blkS x (c+j) q)])
 | [],_,_,h=>by simp [gsC] at h
 | x::r,c,g,h=>by
  simp only[gsC,List.mem_append] at h
  rcases h with h | h
  ·obtain⟨q,h1,h2⟩:=gsS_mem h
   exact⟨0,x,q,rfl,h1,h2⟩
  ·obtain⟨j,y,q,h1,h2,h3⟩:=gsC_mem (l:=r) (c:=c+1) h
   exact⟨j+1,y,q,by simpa using h1,h2,by rw[h3,show c+1+j=c+(j+1) by omega]⟩
theorem subs_le (x:CS):x.subs≤9:=by cases x <;> simp [CS.subs]
theorem gids_bound {l:List CS}{c id:Nat}(h:id ∈ gidsL (gsC l c)):9*c≤id∧id<9*(c+l.length):=by
 unfold gidsL at h
 obtain⟨g,hg,hid⟩:=List.mem_flatMap.1 h
 obtain⟨j,x,q,h1,h2,rfl⟩:=gsC_mem hg
 simp at hid
 have:=(List.getElem?_eq_some_iff.1 h1).1
 have:=subs_le x
 omega
theorem gidsS {x:CS}{c:Nat}:∀ {n:Nat},(gidsL (gsS x c n)).Nodup∧∀ id ∈ gidsL (gsS x c n),id<9*c+n
 | 0=>by simp [gsS,gidsL]
 | n+1=>by
  obtain⟨h1,h2⟩:=gidsS (x:=x) (c:=c) (n:=n)
  have e:gidsL (gsS x c (n+1))=gidsL (gsS x c n)++[9*c+n]:=by simp [gsS,gidsL]
  rw[e]
  refine⟨List.nodup_append.2 ⟨h1,by simp,fun a ha b hb=>?_⟩,fun id hid=>?_⟩
  ·have:=h2 a ha
   simp at hb
   omega
  ·rcases List.mem_append.1 hid with h | h
   ·have:=h2 id h; omega
   ·simp at h; omega
theorem gids_nodup:∀ {l:List CS}{c:Nat},(gidsL (gsC l c)).Nodup
 | [],_=>by simp [gsC,gidsL]
 | x::r,c=>by
  have ih:=gids_nodup (l:=r) (c:=c+1)
  have hb:∀ id ∈ gidsL (gsC r (c+1)),9*(c+1)≤id:=fun id h=>(gids_bound h).1
  obtain⟨h1,h2⟩:=gidsS (x:=x) (c:=c) (n:=x.subs)
  have e:gidsL (gsC (x::r) c)=gidsL (gsS x c x.subs)++gidsL (gsC r (c+1)):=by simp [gsC,gidsL]
  rw[e]
  refine List.nodup_append.2 ⟨h1,ih,fun a ha b hb'=>?_⟩
  have:=h2 a ha
  have:=hb b hb'
  have:=subs_le x
  omega
theorem ctxP_ok {shs:List (Bool × List CS)}{us:List Value}(h:FitCs w (cellsP shs) us ds):(ctxP shs).Ok (envC ds):=by
 refine⟨fun i r hr=>rngC_ok h hr,fun p hp=>?_⟩
 obtain⟨j,x,q,h1,h2,rfl⟩:=asmC_mem hp
 obtain⟨v,d,_,h3,h4⟩:=h.get h1
 have hd:dget ds j=d:=by simp [dget,List.getD,h3]
 have hq:=subs_le x
 rw[Nat.zero_add]
 refine decide_eq_false (Int.not_lt.2 ?_)
 show (envC ds).int (27*j+(3*q+1))≤(envC ds).int (27*j+(3*q+2))
 rw[envC_i (by omega),envC_i (by omega),hd]
 exact(h4.sub h2).2.2.1
theorem rowS_rel {pat:List CK}{e:TypeId}{j q:Nat}(hq:q<9) (h:SlI w pat (dget ds j) q) (hb:(dget ds j).b (2*q)=true):∃ a o,(envC ds).loc (9*j+q)=some a∧w.heap[a]?=some o∧BRel (envC ds) (9*j+q) (rowS pat e j q) o:=by
 obtain⟨q0,q1,_,_,q4,_⟩:=h
 obtain⟨b,vs,e',fz,r1,r2,r4⟩:=q4 hb
 have i0:=envC_i (ds:=ds) (c:=j) (show 3*q<27 by omega)
 have i1:=envC_i (ds:=ds) (c:=j) (show 3*q+1<27 by omega)
 refine⟨b,_,by rw[envC_l hq]; exact r1,r2,vs,fz,e',rfl,fun h=>by simp [Md.isRo] at h,⟨by simp only[SI.den,i0]; exact q0,?_⟩,fun h=>by simp at h,fun h=>by simp at h⟩
 simp only[SI.den,i0]
 unfold Row
 simp only[SI.den,i1,SI.cells,envC_r hq]
 have hcell:∀ k,k<((dget ds j).i (3*q+1)).toNat*pat.length→∃ ck,pat[k % pat.length]?=some ck∧(vs.extract ((dget ds j).i (3*q)).toNat vs.size)[k]?=some (ck.val ((dget ds j).row q k)):=by
  intro k hk
  obtain⟨ck,s1,s2⟩:=r4 k hk
  refine⟨ck,s1,?_⟩
  have hlt:=(Array.getElem?_eq_some_iff.1 s2).1
  rw[Array.getElem?_extract,if_pos (by omega)]
  exact s2
 refine⟨q1,?_,hcell⟩
 refine Decidable.byContradiction fun hn=>?_
 have hpos:0<((dget ds j).i (3*q+1)).toNat*pat.length:=by omega
 obtain⟨ck,_,s2⟩:=hcell (((dget ds j).i (3*q+1)).toNat*pat.length-1) (by omega)
 have:=(Array.getElem?_eq_some_iff.1 s2).1
 omega
theorem avSs_get {c:Nat}:∀ {n q i:Nat}{x:AV},(avSs c q n)[i]?=some x→i<n∧x=avS c (q+i)
 | 0,q,i,x,h=>by simp [avSs] at h
 | n+1,q,0,x,h=>by simp [avSs] at h; exact⟨by omega,h.symm⟩
 | n+1,q,i+1,x,h=>by
  obtain⟨h1,h2⟩:=avSs_get (n:=n) (q:=q+1) (i:=i) (by simpa [avSs] using h)
  exact⟨by omega,by rw[h2,show q+1+i=q+(i+1) by omega]⟩
theorem heapP_rel {shs:List (Bool × List CS)}{us:List Value}(h:FitCs w (cellsP shs) us ds):HRel (envC ds) (heapP shs) w∧∀ a,¬ Live (envC ds) (heapP shs) a:=by
 have hget:∀ id,(heapP shs).get id=none:=fun id=>by simp [heapP,AHeap.get,Tr.get_nil]
 have hhas:∀ id b,(heapP shs).has (envC ds) id b→∃ j x q,(cellsP shs)[j]?=some x∧q<x.subs∧id=9*j+q∧(dget ds j).b (2*q)=true∧b=blkS x j q:=by
  intro id b hb
  rcases hb with hb | ⟨g,hg,hd,hm⟩
  ·rw[hget] at hb; simp at hb
  ·obtain⟨j,x,q,h1,h2,rfl⟩:=gsC_mem (by exact hg)
   rw[Nat.zero_add] at hm hd
   simp at hm
   obtain⟨rfl,rfl⟩:=hm
   have:=subs_le x
   simp only[SB.den] at hd
   rw[envC_b (by omega)] at hd
   exact⟨j,x,q,h1,h2,rfl,hd,rfl⟩
 have hro:∀ id b,(heapP shs).has (envC ds) id b→b.rw=false:=fun id b hb=>by
  obtain⟨j,x,q,_,h2,_,_,rfl⟩:=hhas id b hb
  cases x with
  | int k=>simp [CS.subs] at h2
  | bool=>simp [CS.subs] at h2
  | slice pat e=>rfl
  | slices pat e e2=>cases q <;> rfl
 refine⟨⟨fun id b hb=>?_,fun i j bi bj a hi hj hr=>?_,⟨gids_nodup,?_,fun id _=>hget id⟩,fun id a ha=>?_,fun id hid=>?_⟩,fun a ⟨id,b,hb,hr,_⟩=>by rw[hro id b hb] at hr; simp at hr⟩
 ·obtain⟨j,x,q,h1,h2,rfl,h3,rfl⟩:=hhas id b hb
  obtain⟨v,d',_,k1,k2⟩:=h.get h1
  have hd:dget ds j=d':=by simp [dget,List.getD,k1]
  rw[← hd] at k2
  cases x with
  | int k=>simp [CS.subs] at h2
  | bool=>simp [CS.subs] at h2
  | slice pat e =>
   obtain rfl:q=0:=by simp [CS.subs] at h2; exact h2
   exact rowS_rel (by omega) k2.1 h3
  | slices pat e e2 =>
   cases q with
   | succ q=>exact rowS_rel (by simp [CS.subs] at h2; omega) (k2.2.2.1 q (by simp [CS.subs] at h2; omega)) h3
   | zero =>
    obtain⟨⟨q0,q1,_,_,q4,_⟩,_,q6,_⟩:=k2
    obtain⟨b,vs,e',fz,r1,r2,r3⟩:=q4 h3
    have i0:=envC_i (ds:=ds) (c:=j) (show 0<27 by omega)
    have i1:=envC_i (ds:=ds) (c:=j) (show 1<27 by omega)
    rw[Nat.add_zero] at i0
    refine⟨b,_,by rw[envC_l (by omega)]; exact r1,r2,vs,fz,e',rfl,by simp only[SI.den,i0]; exact q0,fun i x hx hi=>?_⟩
    obtain⟨h5,rfl⟩:=avSs_get hx
    simp only[SI.den,i1] at hi
    obtain⟨u,s1,s2⟩:=r3 i h5 hi
    refine⟨u,by simp only[SI.den,i0]; exact s1,?_⟩
    rw[show 1+i=i+1 by omega]
    exact slV_rel (by omega) (q6 i h5).1 s2
 ·rw[hro i bi hi,hro j bj hj] at hr; simp at hr
 ·intro id hid
  have:=gids_bound hid
  simpa [heapP] using this.2
 ·-- a block that is told of
  by_cases hlt:id / 9<ds.length
  ·have hl:=h.length
   have hc:∃ x,(cellsP shs)[id / 9]?=some x:=⟨_,List.getElem?_eq_getElem (by omega)⟩
   obtain⟨x,hx⟩:=hc
   obtain⟨v,d',_,k1,k2⟩:=h.get hx
   have hd:dget ds (id / 9)=d':=by simp [dget,List.getD,k1]
   simp only[envC,hd] at ha
   have slI:∀ {pat:List CK} {q:Nat},SlI w pat d' q→d'.loc q=some a→a<w.heap.size:=fun {pat q} hs hq=>by
    obtain⟨_,_,_,_,q4,q5⟩:=hs
    by_cases hb:d'.b (2*q)=true
    ·obtain⟨b,vs,e',fz,r1,r2,_⟩:=q4 hb
     rw[r1] at hq; simp at hq; subst hq
     exact(Array.getElem?_eq_some_iff.1 r2).1
    ·rw[q5 (by simpa using hb)] at hq; simp at hq
   cases x with
   | int k=>rw[k2.2.2.2] at ha; simp at ha
   | bool=>rw[k2.2] at ha; simp at ha
   | slice pat e =>
    by_cases h0:id % 9=0
    ·rw[h0] at ha; exact slI k2.1 ha
    ·rw[k2.2.2 _ (by omega)] at ha; simp at ha
   | slices pat e e2 =>
    by_cases h0:id % 9=0
    ·rw[h0] at ha
     obtain⟨⟨_,_,_,_,q4,q5⟩,_⟩:=k2
     by_cases hb:d'.b 0=true
     ·obtain⟨b,vs,e',fz,r1,r2,_⟩:=q4 hb
      rw[r1] at ha; simp at ha; subst ha
      exact(Array.getElem?_eq_some_iff.1 r2).1
     ·rw[q5 (by simpa using hb)] at ha; simp at ha
    ·have:=k2.2.2.1 (id % 9-1) (by omega)
     rw[show id % 9-1+1=id % 9 by omega] at this
     exact slI this ha
  ·simp only[envC,dget,List.getD] at ha
   rw[List.getElem?_eq_none (by omega)] at ha
   simp [CD.no] at ha
 ·have hl:=h.length
  simp only[heapP] at hid
  simp only[envC,dget,List.getD]
  rw[List.getElem?_eq_none (by omega)]
  rfl
end
theorem calls_gen {P:Program}(hP:P.follows .mixedOrders=true) {g:FuncId}{args:List AV}{vs:List Value}{E:Env}{H:AHeap}{G:Ctx}(l:List ACut) (top:Nat) (hok:allOK l=true)
  (hparts:∀ (k:Nat) (a:ACut),l[k]?=some a→Covers P l a.ms true a.u.t.cfg a.g)
  {c:Cfg} (hs:start P g args H=some c) (hstart:Covers P l { rank:=top } false c G) (w:World) (hG:G.Ok E) (hv:VRelL E args vs) (hH:HRel E H w) (hrw:∀ a,¬ Live E H a) :
  Calls P g vs.toArray w fun e w'=>e=.returned (.bool true)∧Below w.heap.size w w':=by
 intro cs
 unfold start at hs
 cases hen:enterFrame P g args false with
 | none=>rw[hen] at hs; simp at hs
 | some fr =>
  rw[hen] at hs
  simp at hs
  subst hs
  obtain⟨h1,h2,h3,_,_⟩:=enter_ok (w:=w) hv hen
  have hM:MRel P { A:=fun _=>False,cs,fn:=g,w } E { fr,callers:=[],heap:=H } (Frame.enter P g vs.toArray .normal) [] w :=
   ⟨h1,h2,rfl,hH,⟨rfl,rfl,rfl,Nat.le_refl _,fun _ _ _=>rfl⟩,fun a ha=>absurd ha (hrw a),by simp [botFn,h3]⟩
  let p:=autoPlan l G top noΦ
  have hokp:∀ u ∈ p.us,u.t.ok=true:=fun u hu=>by
   obtain⟨a,ha,rfl⟩:=List.mem_map.1 hu
   exact List.all_eq_true.1 hok a ha
  have hnone:l[l.length]?=none:=List.getElem?_eq_none (Nat.le_refl _)
  obtain⟨g',c',hG',hM',hst⟩:=hstart.at hG
  obtain⟨n,hc,hvc⟩:=PartOK.split hst (k:=l.length) (g0:=G) (top:=top) (fun i b r=>by simp only[autoPlan,hnone])
  have hall:∀ k u,p.us[k]?=some u→∀ E:Env,(p.G k).Ok E→∃ g1 n c,g1.Ok E∧(∀ f fs w1,MRel P { A:=fun _=>False,cs,fn:=g,w } E u.t.cfg f fs w1→MRel P { A:=fun _=>False,cs,fn:=g,w } E c f fs w1)∧(∀ e ∈ ends P p.us n true g1 c,CtlOK p.us e)∧∀ e ∈ ends P p.us n true g1 c,∀ E:Env,g1.Ok E→p.phi k E→Facts E e.asm→LeafVC p k E e.leaf:=by
   intro k u hu E hE
   simp only[p,autoPlan,List.getElem?_map] at hu
   cases ha:l[k]? with
   | none=>rw[ha] at hu; simp at hu
   | some a =>
    rw[ha] at hu
    simp at hu
    subst hu
    have hE':a.g.Ok E:=by simpa only[p,autoPlan,ha] using hE
    obtain⟨g',c',hg',hc',hp'⟩:=(hparts k a ha).at hE'
    obtain⟨n,h1,h2⟩:=PartOK.split hp' (k:=k) (g0:=G) (top:=top) (fun i b r=>by simp only[autoPlan,ha,muOf])
    exact⟨g',n,c',hg',hc' _,h1,h2⟩
  have hgood:=part_ok hP p hokp (k:=l.length) hc hvc hG' trivial (hM' _ _ _ _ hM)
   (fun j u E' f' fs' w' hj hlt hG' hΦ' hM'=>plan_ok hP p hokp hall (p.mu j E'+1) j u E' f' fs' w' (by omega) hj hG' hΦ' hM')
  obtain⟨f',w',e3,e4,e5,e8⟩:=hgood
  exact⟨.returned (.bool true),w',f',⟨rfl,⟨e8.os,e8.tape,e8.output,e8.size,fun b hb=>e8.block b hb (fun x=>x)⟩⟩,e3,e4,e5⟩
noncomputable def startP (P:Program) (g:FuncId) (shs:List (Bool × List CS)):Cfg:=match start P g (avP shs 0) (heapP shs) with
 | some c=>c
 | none=>{ fr:=dummyFr,callers:=[],heap:=H0 }
theorem startP_ok {P:Program}{g:FuncId}{shs:List (Bool × List CS)}(h:(start P g (avP shs 0) (heapP shs)).isSome=true):start P g (avP shs 0) (heapP shs)=some (startP P g shs):=by
 unfold startP
 split
 ·rename_i c hc; exact hc
 ·rename_i hc; rw[hc] at h; simp at h
theorem calls_shape {P:Program}(hP:P.follows .mixedOrders=true) {g:FuncId}{shs:List (Bool × List CS)}{l:List ACut}{top:Nat}(hok:allOK l=true) (hparts:AllParts P l l)
  (hs:(start P g (avP shs 0) (heapP shs)).isSome=true) (hstart:Covers P l { rank:=top } false (startP P g shs) (ctxP shs)) (w:World) {vs:List Value} {cds:List CD} (hf:FitP w shs vs cds) :
  Calls P g vs.toArray w fun e w'=>e=.returned (.bool true)∧Below w.heap.size w w':=by
 obtain⟨us,hu⟩:=hf.cells
 obtain⟨h1,h2⟩:=heapP_rel hu
 exact calls_gen hP l top hok (allParts_ok hparts) (startP_ok hs) hstart w (ctxP_ok hu) (params_rel hf (fun j _=>by rw[Nat.zero_add])) h1 h2
end Go.Ev
