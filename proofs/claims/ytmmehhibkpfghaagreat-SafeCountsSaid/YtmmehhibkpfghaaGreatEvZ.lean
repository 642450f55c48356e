/- Ev, part Z: a whole call. -/
import Derived.Test.YtmmehhibkpfghaaGreatEvY
import Derived.Below
import Derived.ChangeSame
set_option linter.unusedVariables false
namespace Go.Ev
open Go.RowKit
theorem calls_of {P:Program}(hP:P.follows .mixedOrders=true) {E:Env}{G:Ctx}{ok:AV→AHeap→Bool}{n:Nat}{g:FuncId}{args:List AV}{vs:List Value}{c:Cfg}(w:World)
  (hG:G.Ok E) (hE:∀ i,E.loc i=none) (hv:VRelL E args vs) (hs:start P g args H0=some c) (h:exploreF P ok n G c=true) :
  Calls P g vs.toArray w fun e w'=>∃ E' v H v',e=.returned v'∧ok v H=true∧E.le E'∧VRel E' v v'∧HRel E' H w'∧Below w.heap.size w w':=by
 intro cs
 unfold start at hs
 cases hen:enterFrame P g args false with
 | none=>rw[hen] at hs; simp at hs
 | some fr =>
  rw[hen] at hs
  simp at hs
  subst hs
  obtain⟨h1,h2,h3,_,_⟩:=enter_ok (w:=w) hv hen
  have hget:∀ id,AHeap.get H0 id=none:=fun id=>by simp [AHeap.get,H0,Tr.get_nil]
  have hM:MRel P { A:=fun _=>False,cs,fn:=g,w } E { fr,callers:=[],heap:=H0 } (Frame.enter P g vs.toArray .normal) [] w:=by
   have hnone:∀ id b,¬ AHeap.has E H0 id b:=fun id b hb=>by
    rcases hb with hb | ⟨g,hg,_⟩
    ·rw[hget] at hb; simp at hb
    ·simp [H0] at hg
   refine⟨h1,h2,rfl,⟨fun id b hb=>absurd hb (hnone id b),fun i j bi bj a hb=>absurd hb (hnone i bi),⟨by simp [H0,gidsL],by simp [H0,gidsL],by simp [H0,gidsL]⟩,?_,?_⟩,⟨rfl,rfl,rfl,Nat.le_refl _,fun _ _ _=>rfl⟩,?_,?_⟩
   ·intro id a ha; rw[hE] at ha; simp at ha
   ·intro id _; exact hE id
   ·intro a ha; obtain⟨id,b,hb,_⟩:=ha; exact absurd hb (hnone id b)
   ·simp [botFn,h3]
  obtain⟨E',v,H,f,w',v',e1,e2,e3,e4,e5,e6,e7,e8⟩:=exploreF_ok hP n hG hM h
  exact⟨.returned v',w',f,⟨E',v,H,v',rfl,e1,e2,e6,e7,⟨e8.os,e8.tape,e8.output,e8.size,fun b hb=>e8.block b hb (fun x=>x)⟩⟩,e3,e4,e5⟩
def E0 (ints:List Int) (bools:List Bool):Env:={ loc:=fun _=>none,cap:=fun _=>0,int:=fun i=>ints.getD i 0,bool:=fun i=>bools.getD i false,row:=fun _ _=>0,val:=fun _=>undef }
theorem isTrueA_ok {E:Env}{v:AV}{H:AHeap}{v':Value}(h:isTrueA v H=true) (hv:VRel E v v'):v'=.bool true:=by
 unfold isTrueA at h
 split at h
 ·simpa [VRel,SB.den] using hv
 ·simp at h
theorem calls_true {P:Program}(hP:P.follows .mixedOrders=true) {G:Ctx}{n:Nat}{g:FuncId}{args:List AV}{vs:List Value}{c:Cfg}(ints:List Int) (bools:List Bool) (w:World)
  (hG:G.Ok (E0 ints bools)) (hv:VRelL (E0 ints bools) args vs) (hs:start P g args H0=some c) (h:exploreF P isTrueA n G c=true) :
  Calls P g vs.toArray w fun e w'=>e=.returned (.bool true)∧Below w.heap.size w w' :=
 (calls_of hP w hG (fun _=>rfl) hv hs h).mono fun e w' ⟨E',v,H,v',h1,h2,_,h3,_,h4⟩=>by
  rw[isTrueA_ok h2 h3] at h1; exact⟨h1,h4⟩
inductive Arg where
 | int (n:Int)
 | bool (b:Bool)
def Arg.toInt:Arg→Int
 | .int n=>n
 | .bool _=>0
def Arg.toBool:Arg→Bool
 | .int _=>false
 | .bool b=>b
def argAV:List (Option IntKind)→Nat→List AV
 | [],_=>[]
 | some k::r,i=>.int k (.var i)::argAV r (i+1)
 | none::r,i=>.bool (.var i)::argAV r (i+1)
def rngOf:List (Option IntKind)→List (Option (Int × Int))
 | []=>[]
 | some k::r=>some (k.min,k.max)::rngOf r
 | none::r=>some (0,0)::rngOf r
def FitsL:List (Option IntKind)→List Arg→Prop
 | [],[]=>True
 | some k::r,.int n::as=>(k.min≤n∧n≤k.max)∧FitsL r as
 | none::r,.bool _::as=>FitsL r as
 | _,_=>False
def valsOf:List (Option IntKind)→List Arg→List Value
 | some k::r,.int n::as=>.int k n::valsOf r as
 | none::r,.bool b::as=>.bool b::valsOf r as
 | _,_=>[]
def envOf (as:List Arg):Env:=E0 (as.map Arg.toInt) (as.map Arg.toBool)
theorem wf_fits {k:IntKind}{n:Int}(h:(Lit.int k n).wf=true):k.min≤n∧n≤k.max:=by
 simpa [Lit.wf] using h
theorem args_rel {E:Env}:∀ {sh:List (Option IntKind)}{as:List Arg}{i:Nat},FitsL sh as→(∀ j a,as[j]?=some a→E.int (i+j)=a.toInt∧E.bool (i+j)=a.toBool)→VRelL E (argAV sh i) (valsOf sh as)
 | [],[],_,_,_=>VRelL.nil
 | [],_::_,_,h,_=>h.elim
 | some k::r,.int n::as,i,h,he=>by
  refine VRelL.cons ?_ (args_rel (i:=i+1) h.2 (fun j a ha=>by
   have:=he (j+1) a (by simpa using ha)
   rw[show i+(j+1)=i+1+j by omega] at this; exact this))
  have:=(he 0 _ rfl).1
  simp only[VRel,SI.den]
  rw[Nat.add_zero] at this
  rw[this]; rfl
 | none::r,.bool b::as,i,h,he=>by
  refine VRelL.cons ?_ (args_rel (sh:=r) (i:=i+1) h (fun j a ha=>by
   have:=he (j+1) a (by simpa using ha)
   rw[show i+(j+1)=i+1+j by omega] at this; exact this))
  have:=(he 0 _ rfl).2
  simp only[VRel,SB.den]
  rw[Nat.add_zero] at this
  rw[this]; rfl
 | some _::_,[],_,h,_=>h.elim
 | some _::_,.bool _::_,_,h,_=>h.elim
 | none::_,[],_,h,_=>h.elim
 | none::_,.int _::_,_,h,_=>h.elim
theorem rng_ok:∀ {sh:List (Option IntKind)}{as:List Arg},FitsL sh as→∀ i r,(rngOf sh)[i]?=some (some r)→r.1≤(as.map Arg.toInt).getD i 0∧(as.map Arg.toInt).getD i 0≤r.2
 | [],[],_,i,r,h=>by simp [rngOf] at h
 | [],_::_,h,_,_,_=>h.elim
 | some k::rs,.int n::as,h,0,r,hr=>by simp [rngOf] at hr; subst hr; exact h.1
 | some k::rs,.int n::as,h,i+1,r,hr=>by simpa using rng_ok h.2 i r (by simpa [rngOf] using hr)
 | none::rs,.bool b::as,h,0,r,hr=>by simp [rngOf] at hr; subst hr; simp [Arg.toInt]
 | none::rs,.bool b::as,h,i+1,r,hr=>by simpa using rng_ok (sh:=rs) h i r (by simpa [rngOf] using hr)
 | some _::_,[],h,_,_,_=>h.elim
 | some _::_,.bool _::_,h,_,_,_=>h.elim
 | none::_,[],h,_,_,_=>h.elim
 | none::_,.int _::_,h,_,_,_=>h.elim
noncomputable def runArgs (P:Program) (g:FuncId) (sh:List (Option IntKind)) (n:Nat):Bool :=
 match start P g (argAV sh 0) H0 with
 | some c=>exploreF P isTrueA n { rng:=rngOf sh,asm:=[] } c
 | none=>false
theorem calls_args {P:Program}(hP:P.follows .mixedOrders=true) {n:Nat}{g:FuncId}{sh:List (Option IntKind)}(h:runArgs P g sh n=true) (as:List Arg) (hf:FitsL sh as) (w:World) :
  Calls P g (valsOf sh as).toArray w fun e w'=>e=.returned (.bool true)∧Below w.heap.size w w':=by
 unfold runArgs at h
 split at h
 ·rename_i c hc
  refine calls_true hP (as.map Arg.toInt) (as.map Arg.toBool) w (G:={ rng:=rngOf sh,asm:=[] }) ⟨fun i r hr=>rng_ok hf i r hr,by simp⟩ (args_rel hf (fun j a ha=>?_)) hc h
  simp [E0,ha]
 ·simp at h
section
open Go.ChangeShapes Go.WideShapes
variable {H:Type} {enc:TypeId × Value→H} {P:Program}
theorem post_below {f:Func}{s:ChangeSpec}{apart fresh handsOn:Bool}{W W':World}{args:Array Value}{v:Value}{ds gs:List (DataW H)}{before pa pv:List MemPlace}
  (hW:DataW.Whole enc P f.params.toList s.vars apart W args.toList ds gs before)
  (hres:∀ (b:Nat) (sp:Nat→Bool) (hd:Bool),DataW.TrodAll enc P W' b sp hd f.resultTypes.toList (v.resultList f.resultTypes.size) (s.fn H (ds++gs)).results [])
  (hargs:∀ sp:Nat→Bool,(∀ p ∈ before,sp p.block=true)→DataW.TrodAll enc P W' 0 sp true f.params.toList args.toList (s.fn H (ds++gs)).args pa)
  (hvars:∀ sp:Nat→Bool,(∀ p ∈ before,sp p.block=true)→DataW.TrodVars enc P W' sp s.vars (s.fn H (ds++gs)).vars pv)
  (hb:Below W.heap.size W W'):s.post enc P f apart fresh handsOn false W args v W':=by
 have hold:∀ p ∈ before,(fun b=>decide (b<W.heap.size)) p.block=true:=fun p hp=>by simpa using hW.lt p hp
 exact⟨ds,gs,before,[],pa,pv,hW,hres _ _ _,hargs _ hold,hvars _ hold,hb.frame _,fun h=>by simp at h⟩
end
end Go.Ev
