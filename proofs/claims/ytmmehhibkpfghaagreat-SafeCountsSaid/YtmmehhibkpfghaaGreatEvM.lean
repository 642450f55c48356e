/- Ev, part M: every operation. -/
import Derived.Test.YtmmehhibkpfghaaGreatEvL
set_option linter.unusedVariables false
namespace Go.Ev
variable {P:Program} {E:Env} {G:Ctx} {H:AHeap} {w:World}
theorem map_ok {ev:Operand→AV}{ρ:Operand→Value}{xs:Array Operand}(h:∀ x ∈ xs,VRel E (ev x) (ρ x)):VRelL E (xs.toList.map ev) (xs.map ρ).toList:=by
 rw[Array.toList_map]
 exact VRelL.map ev ρ _ (fun x hx=>h x (by simpa using hx))
theorem invoke_OK (hH:HRel E H w) (hG:G.Ok E) {f:AV}{fv:Value}{args:List AV}{vs:List Value}(hf:VRel E f fv) (hv:VRelL E args vs) :
  OutOK P E H w (invokeA P G H f args) (do let d ← Deferred.ofValue fv vs.toArray; invoke d.target d.args):=by
 unfold invokeA
 split
 ·rename_i g first captured
  simp only[VRel] at hf
  obtain⟨fs,cs,_,h1,h2,rfl⟩:=hf
  have:=callFunc_OK (P:=P) hH hG (f:=g) ((h1.append hv).append h2)
  have e:(do let d ← Deferred.ofValue (.func (.func g) fs.toArray cs.toArray) vs.toArray; invoke d.target d.args:Sem Next)=callFunc g (fs++vs++cs).toArray:=by
   simp [Deferred.ofValue,invoke]
  rw[e]; exact this
 ·rename_i l
  simp only[VRel] at hf
  obtain⟨b,hb,rfl⟩:=hf
  exact⟨b,vs,hb,hv,by simp [Deferred.ofValue,invoke]⟩
 ·trivial
theorem method_run {t:TypeId}{v:Value}{name:String}{f:FuncId}{pr:Bool}{d:TypeDesc}(hm:methA P t name=some (f,pr)) (hu:P.underlying t=some d)
  (hk:(∃ e,d=.pointer e∧pr=true)∨((∀ e,d≠.pointer e)∧pr=false)) (k:Nat):(method (k+1) t v name).run P w=.ok (f,v) w:=by
 unfold methA at hm
 split at hm
 ·rename_i i hi
  split at hm
  ·rename_i m hmm
   split at hm
   ·rename_i hp
    have hpe:m.path.toList=[]:=by simpa using hp
    have hti:(typeInfo t).run P w=.ok i w:=by simp [typeInfo,hi]
    rcases hk with ⟨e,rfl,rfl⟩ | ⟨hd,rfl⟩
    ·simp [method,hti,hmm,hpe,follow,hm,receiverAt,underlying_ok hu,Place.get]
    ·simp [method,hti,hmm,hpe,follow,hm,receiverAt,underlying_ok hu,Place.get]
   ·simp at hm
  ·simp at hm
 ·simp at hm
theorem method_OK (hH:HRel E H w) (hG:G.Ok E) {r:AV}{rv:Value}{name:String}{args:List AV}{vs:List Value}(hr:VRel E r rv) (hv:VRelL E args vs) :
  OutOK P E H w (methodA P G H r name args) (callMethod rv name vs.toArray):=by
 unfold methodA
 split
 ·rename_i t x
  simp only[VRel] at hr
  obtain⟨y,hy,rfl⟩:=hr
  split
  ·rename_i f pr hm
   obtain⟨k,hk⟩:∃ k,P.types.size+Made.depth=k+1:=⟨P.types.size+Made.depth-1,by simp [Made.depth]⟩
   have go:∀ {d},P.underlying t=some d→((∃ e,d=.pointer e∧pr=true)∨((∀ e,d≠.pointer e)∧pr=false)) →
     OutOK P E H w (callFuncA P G H f (x::args)) (callMethod (.iface t y) name vs.toArray):=by
    intro d hu hd
    have:=callFunc_OK (P:=P) hH hG (f:=f) (VRelL.cons hy hv)
    have e:(callMethod (.iface t y) name vs.toArray).run P w=(callFunc f (y::vs).toArray).run P w:=by
     simp [callMethod,hk,method_run hm hu hd k]
    revert this
    cases callFuncA P G H f (x::args) <;> simp only[OutOK,CommTo,e] <;> exact id
   split
   ·rename_i e hu; exact go hu (.inl ⟨e,rfl,rfl⟩)
   ·trivial
   ·rename_i d hne hu; exact go hu (.inr ⟨fun e h=>hne e h,rfl⟩)
   ·trivial
  ·trivial
 ·trivial
theorem builtin_OK (hH:HRel E H w) (hG:G.Ok E) {b:Builtin}{ats:Array TypeId}{ty:TypeId}{cs:Array Bool}{args:List AV}{vs:List Value}(hv:VRelL E args vs) :
  OutOK P E H w (builtinA P G H b ats args) (builtin b ats ty cs vs.toArray):=by
 unfold builtinA
 split
 ·rename_i x
  simp only[VRelL] at hv
  obtain⟨y,_,hy,rfl,rfl⟩:=hv
  split
  ·rename_i t ht
   have:=OutV.ok (len_V (P:=P) (ty:=ty) hH hG ht hy)
   simpa only[builtin] using this
  ·trivial
 ·have:=OutV.ok (min_V (P:=P) (argTypes:=ats) (ty:=ty) (H:=H) (w:=w) hG hv)
  simpa only[builtin] using this
 ·have:=OutV.ok (max_V (P:=P) (argTypes:=ats) (ty:=ty) (H:=H) (w:=w) hG hv)
  simpa only[builtin] using this
 ·split
  ·trivial
  ·have:=OutV.ok (append_V (P:=P) (argTypes:=ats) (ty:=ty) hH hG hv)
   simpa only[builtin] using this
 ·trivial
theorem eqGuard_ok {op:BinOp}{t:TypeId}{x y:Operand}{u v:Value}(h1:(u=.nilIface∧v=.nilIface)→(isConstO x||isConstO y)=true) (h2:∀ cs ds,u=.agg cs→v≠.agg ds) :
  (eqGuard op t x y u v).run P w=.ok () w:=by
 by_cases hn:u=.nilIface∧v=.nilIface
 ·have hc:=h1 hn
  obtain⟨rfl,rfl⟩:=hn
  cases x <;> cases y <;> simp [isConstO] at hc <;> cases op <;> simp [eqGuard]
 ·by_cases ha:∃ cs ds,u=.agg cs∧v=.agg ds
  ·obtain⟨cs,ds,h,k⟩:=ha
   exact absurd k (h2 cs ds h)
  ·have:eqGuard op t x y u v=pure ():=by
    unfold eqGuard
    cases op <;> simp only[Bool.not_true,Bool.not_false,Bool.false_eq_true,if_false,if_true]
    all_goals
     split
     ·exact absurd ⟨rfl,rfl⟩ hn
     ·exact absurd ⟨_,_,rfl,rfl⟩ ha
     ·rfl
   rw[this]; rfl
theorem binOp_other {t:TypeId}{u v:Value}{b:Bool}(he:(Op.equal t u v).run P w=.ok b w) (h1:∀ k n k' n',u=.int k n→v≠.int k' n')
  (h2:∀ k n k' n',u=.float k n→v≠.float k' n') (h3:∀ k n m k' n' m',u=.complex k n m→v≠.complex k' n' m') (h4:∀ a b,u=.string a→v≠.string b) :
  (binOp .eql t u v).run P w=.ok (.bool b) w∧(binOp .neq t u v).run P w=.ok (.bool (!b)) w:=by
 constructor
 ·unfold binOp
  split <;> first | (exact absurd rfl (h1 _ _ _ _ rfl)) | (exact absurd rfl (h2 _ _ _ _ rfl)) | (exact absurd rfl (h3 _ _ _ _ _ _ rfl)) | (exact absurd rfl (h4 _ _ rfl)) | (simp [he]; done) | (simp_all; done)
 ·unfold binOp
  split <;> first | (exact absurd rfl (h1 _ _ _ _ rfl)) | (exact absurd rfl (h2 _ _ _ _ rfl)) | (exact absurd rfl (h3 _ _ _ _ _ _ rfl)) | (exact absurd rfl (h4 _ _ rfl)) | (simp [he]; done) | (simp_all; done)
end Go.Ev
