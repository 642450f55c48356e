/- Ev, part 2: cut points: configurations at which a run is stopped, and held against a given one whose numbers are open. Definitions alone. -/
import Derived.Test.YtmmehhibkpfghaaGreatEvZ
set_option linter.unusedVariables false
namespace Go.Ev
noncomputable section
structure Sub where
 ints:List SI
 bools:List SB
 rows:List SI
 ids:Tr Nat
 next:Nat
def nthS (l:List SI) (d:SI) (i:Nat):SI:=@List.rec SI (fun _=>Nat→SI) (fun _=>d) (fun x _ ih i=>@Nat.rec (fun _=>SI) x (fun j _=>ih j) i) l i
def nthT (l:List SB) (d:SB) (i:Nat):SB:=@List.rec SB (fun _=>Nat→SB) (fun _=>d) (fun x _ ih i=>@Nat.rec (fun _=>SB) x (fun j _=>ih j) i) l i
def mkRmap (G:Ctx) (k:IntKind) (o:Int):SI→SI
 | .con v=>.con (k.wrap v)
 | .upd a i v=>.upd (mkRmap G k o a) (mkAdd i (.lit (-o))) (mkWrap G k v)
 | a=>.rmap k a o
mutual
def SI.subst (G:Ctx) (σ:Sub):SI→SI
 | .lit n=>.lit n
 | .var i=>nthS σ.ints (.lit 0) i
 | .add a b=>mkAdd (a.subst G σ) (b.subst G σ)
 | .sub a b=>mkSub (a.subst G σ) (b.subst G σ)
 | .mul a b=>mkMul (a.subst G σ) (b.subst G σ)
 | .quo a b=>.quo (a.subst G σ) (b.subst G σ)
 | .rem a b=>.rem (a.subst G σ) (b.subst G σ)
 | .wrap k a=>mkWrap G k (a.subst G σ)
 | .bits o k a b=>mkBits o k (a.subst G σ) (b.subst G σ)
 | .shl k a n=>.shl k (a.subst G σ) n
 | .shr a n=>.shr (a.subst G σ) n
 | .sel k a i=>.sel k (a.substR G σ) (i.subst G σ)
 | .row _=>.lit 0
 | .con _=>.lit 0
 | .upd _ _ _=>.lit 0
 | .app _ _ _ _=>.lit 0
 | .rmap _ _ _=>.lit 0
 | .cnt c a d=>.cnt c (a.substR G σ) (d.subst G σ)
def SI.substR (G:Ctx) (σ:Sub):SI→SI
 | .row i=>nthS σ.rows (.con 0) i
 | .con v=>.con v
 | .upd a i v=>.upd (a.substR G σ) (i.subst G σ) (v.subst G σ)
 | .app a n b o=>.app (a.substR G σ) (n.subst G σ) (b.substR G σ) (o.subst G σ)
 | .rmap k a o=>mkRmap G k o (a.substR G σ)
 | .lit _=>.con 0
 | .var _=>.con 0
 | .add _ _=>.con 0
 | .sub _ _=>.con 0
 | .mul _ _=>.con 0
 | .quo _ _=>.con 0
 | .rem _ _=>.con 0
 | .wrap _ _=>.con 0
 | .bits _ _ _ _=>.con 0
 | .shl _ _ _=>.con 0
 | .shr _ _=>.con 0
 | .cnt _ _ _=>.con 0
 | .sel _ _ _=>.con 0
end
def SB.subst (G:Ctx) (σ:Sub):SB→SB
 | .lit b=>.lit b
 | .var i=>nthT σ.bools (.lit false) i
 | .lss a b=>mkLss G (a.subst G σ) (b.subst G σ)
 | .eql a b=>mkEql G (a.subst G σ) (b.subst G σ)
 | .not a=>mkNot (a.subst G σ)
 | .iff a b=>mkIff (a.subst G σ) (b.subst G σ)
def intOK (G:Ctx) (σ:Sub) (a b:SI):Bool :=
 match a.subst G σ with
 | x=>if x=b then true else match (mkEql G x b).know G with
  | some t=>t
  | none=>match (mkEql G b x).know G with | some t=>t | none=>false
def SB.tidy:SB→SB
 | .lss (.lit n) (.add t (.lit k))=>.lss (.lit (n-k)) t
 | .lss (.add t (.lit k)) (.lit n)=>.lss t (.lit (n-k))
 | b=>b
def boolOK (G:Ctx) (σ:Sub) (a b:SB):Bool :=
 match a.subst G σ with
 | x=>if x=b then true else if x.tidy=b.tidy then true else match (mkIff x b).know G with | some t=>t | none=>false
def idOK (σ:Sub) (i j:Nat):Bool:=Nat.blt i σ.next&&match σ.ids.get i with | some k=>Nat.beq k j | none=>false
def zeroOK (G:Ctx) (σ:Sub):AV→Bool
 | .empty false=>true
 | .ite s x y=>match (s.subst G σ).know G with
  | some true=>zeroOK G σ x
  | some false=>zeroOK G σ y
  | none=>false
 | _=>false
mutual
def valOK (G:Ctx) (σ:Sub):AV→AV→Bool
 | .any,_=>true
 | .ite s x y,v=>(match v with
   | .ite t u z=>boolOK G σ s t&&valOK G σ x (deIte G u)&&valOK G σ y (deIte G z)
   | _=>false)||(match (s.subst G σ).know G with
   | some true=>valOK G σ x v
   | some false=>valOK G σ y v
   | none=>(match v with
    | .slice _ _ l _=>decide (s.subst G σ=mkLss G (.lit 0) l)&&valOK G σ x v&&zeroOK G σ y
    | _=>false))
 | .bool a,.bool b=>boolOK G σ a b
 | .int k a,.int l b=>decide (k=l)&&intOK G σ a b
 | .str a,.str b=>decide (a=b)
 | .nilPtr,.nilPtr=>true
 | .ptr i a,.ptr j b=>idOK σ i j&&intOK G σ a b
 | .nilSlice,.nilSlice=>true
 | .slice i a b c,.slice j d e f=>idOK σ i j&&intOK G σ a d&&intOK G σ b e&&intOK G σ c f
 | .slack i a b c,.slack j d e f=>idOK σ i j&&Nat.beq a d&&Nat.beq b e&&Nat.beq c f
 | .oslice i a n,.oslice j b m=>idOK σ i j&&Nat.beq a b&&intOK G σ n m
 | .oslice i a n,.slack j k b m=>idOK σ i j&&Nat.beq k 0&&Nat.beq a b&&intOK G σ n (.lit m)
 | .empty a,.empty b=>a == b||!a
 | .empty a,.slice _ _ l _=>!a&&(match (mkLss G (.lit 0) l).know G with | some t=>!t | none=>false)
 | .nilMap,.nilMap=>true
 | .map i,.map j=>idOK σ i j
 | .nilChan,.nilChan=>true
 | .chan i,.chan j=>idOK σ i j
 | .func f a b,.func g c d=>decide (f=g)&&valsOK G σ a c&&valsOK G σ b d
 | .yieldF i,.yieldF j=>idOK σ i j
 | .nilFunc,.nilFunc=>true
 | .iface t x,.iface u y=>Nat.beq t u&&valOK G σ x (deIte G y)
 | .nilIface,.nilIface=>true
 | .agg a,.agg b=>valsOK G σ a b
 | .tuple a,.tuple b=>valsOK G σ a b
 | _,_=>false
def valsOK (G:Ctx) (σ:Sub):List AV→List AV→Bool
 | [],[]=>true
 | x::xs,y::ys=>valOK G σ x (deIte G y)&&valsOK G σ xs ys
 | _,_=>false
end
def defOK (G:Ctx) (σ:Sub):ADef→ADef→Bool
 | .collected i,.collected j=>idOK σ i j
 | .call f a,.call g b=>Nat.beq f g&&valsOK G σ a b
 | _,_=>false
def defsOK (G:Ctx) (σ:Sub):List ADef→List ADef→Bool
 | [],[]=>true
 | x::xs,y::ys=>defOK G σ x y&&defsOK G σ xs ys
 | _,_=>false
def cellsTerm (G:Ctx) (pat:List CK) (i:Nat):List AV→SI→Option SI
 | [],a=>some a
 | v::r,a=>match pat[i % pat.length]?,v with
  | some (.int k),.int l (.lit n)=>if k=l∧k.min≤n∧n≤k.max then cellsTerm G pat (i+1) r (if n=0 then a else .upd a (.lit i) (.lit n)) else none
  | some (.int k),.int l x=>if k=l then (match x.range G with
   | some q=>if inRange q k then cellsTerm G pat (i+1) r (.upd a (.lit i) x) else none
   | none=>none) else none
  | some .bool,.bool s=>(match s.know G with
   | some t=>cellsTerm G pat (i+1) r (if t then .upd a (.lit i) (.lit 1) else a)
   | none=>none)
  | _,_=>none
def tmpsOK (G:Ctx) (σ:Sub) (a b:Tr AV):Nat→Bool
 | 0=>true
 | n+1=>valOK G σ ((a.get n).getD undefA) (deIte G ((b.get n).getD undefA))&&tmpsOK G σ a b n
def pairsOK (G:Ctx) (σ:Sub):List (AV × AV)→List (AV × AV)→Bool
 | [],[]=>true
 | x::xs,y::ys=>valOK G σ x.1 (deIte G y.1)&&valOK G σ x.2 (deIte G y.2)&&pairsOK G σ xs ys
 | _,_=>false
def rowBase:SI→SI
 | .upd a _ _=>rowBase a
 | a=>a
def rowIdx:SI→List SI
 | .upd a i _=>i::rowIdx a
 | _=>[]
def selOK (G:Ctx) (k:IntKind) (a b i:SI):Bool:=match mkSel G k a i,mkSel G k b i with
 | .inl x,.inl y=>if x=y then true else (match (mkEql G x y).know G with | some t=>t | none=>false)
 | _,_=>false
def selOKb (G:Ctx) (a b i:SI):Bool:=match mkSel G .i64 a i,mkSel G .i64 b i with
 | .inl x,.inl y=>(match (mkEql G x (.lit 1)).know G,(mkEql G y (.lit 1)).know G with
  | some s,some t=>s == t
  | _,_=>false)
 | _,_=>false
def idxOK (G:Ctx) (pat:List CK) (n a b i:SI):Bool :=
 (match (mkLss G i (.lit 0)).know G with | some t=>t | none=>false) ||
 (match (mkLss G i (mkMul n (.lit pat.length))).know G with | some t=>!t | none=>false) ||
 (match splitOff pat.length i with
  | some (_,c)=>match pat[c]? with
   | some (.int k)=>selOK G k a b i
   | some .bool=>selOK G .i64 a b i||selOKb G a b i
   | none=>false
  | none=>false)
def fewOK (G:Ctx) (pat:List CK) (n a b:SI):Bool:=match n with
 | .lit (.ofNat m)=>Nat.ble (m*pat.length) 16&&(List.range (m*pat.length)).all fun j=>idxOK G pat n a b (.lit j)
 | _=>false
def baseGap (a b:SI):Option SI:=match a,b with
 | .app x n (.con v) _,.app y m (.con w) _=>if x=y∧v=w then (if mkAdd n (.lit 1)=m then some n else if mkAdd m (.lit 1)=n then some m else none) else none
 | _,_=>none
def rowOK1 (G:Ctx) (pat:List CK) (n a b:SI):Bool :=
 if a=b then true else if rowBase a=rowBase b then (rowIdx a).all (idxOK G pat n a b)&&(rowIdx b).all (idxOK G pat n a b) else
  match baseGap (rowBase a) (rowBase b) with
  | some i=>idxOK G pat n a b i&&(rowIdx a).all (idxOK G pat n a b)&&(rowIdx b).all (idxOK G pat n a b)
  | none=>fewOK G pat n a b
def rowOK (G:Ctx) (pat:List CK) (n a b:SI):Bool:=match a with
 | .app x (.lit 0) c (.lit 0)=>rowOK1 G pat n c b||rowOK1 G pat n (.app x (.lit 0) c (.lit 0)) b
 | a=>rowOK1 G pat n a b
def mdOK (G:Ctx) (σ:Sub):Md→Md→Bool
 | .own,.own=>true
 | .opn,.opn=>true
 | .ro o,.ro o'=>intOK G σ o o'
 | _,_=>false
def repOK (G:Ctx) (σ:Sub) (z:AV) (ov:Tr AV):List AV→Nat→Bool
 | [],_=>true
 | c::r,i=>valOK G σ c (deIte G ((ov.get i).getD z))&&repOK G σ z ov r (i+1)
def valsPre (G:Ctx) (σ:Sub):List AV→List AV→Bool
 | x::xs,y::ys=>valOK G σ x (deIte G y)&&valsPre G σ xs ys
 | _,_=>true
def gapRos (a b:SI):Option Nat:=match a,b with
 | .lit n,.lit m=>if 0≤n-m then some (n-m).toNat else none
 | a,b=>match stripS b a with
  | some (.lit (.ofNat k))=>some k
  | _=>none
def gapRosG (G:Ctx) (a b:SI):Option Nat:=match gapRos a b with
 | some k=>some k
 | none=>match a.rangeT G,b.rangeT G with
  | some x,some y=>if x.1=x.2∧y.1=y.2∧0≤x.1-y.1 then some (x.1-y.1).toNat else none
  | _,_=>none
def rosOK (G:Ctx) (σ:Sub) (o n:SI) (cs:List AV) (o' n':SI) (ds:List AV):Bool:=match gapRosG G (o.subst G σ) o' with
 | some k=>intOK G σ n (mkAdd n' (.lit (-(k:Int))))&&valsPre G σ cs (ds.drop k)&&(Nat.ble (cs.length+k) ds.length||match (mkLss G (.lit ds.length) n').know G with | some t=>!t | none=>false)
 | none=>false
def blkOK (G:Ctx) (σ:Sub):AB→AB→Bool
 | .cells cs e,.cells ds e'=>Nat.beq e e'&&valsOK G σ cs ds
 | .opn cs e n,.opn ds e' m=>Nat.beq e e'&&Nat.beq n m&&valsOK G σ cs ds
 | .row md a n pat e,.row md' a' n' pat' e'=>mdOK G σ md md'&&rowOK G pat n' (a.substR G σ) a'&&intOK G σ n n'&&decide (pat=pat')&&Nat.beq e e'
 | .row .own a n pat e,.cells ds e'=>Nat.beq e e'&&decide (pat≠[])&&(match cellsTerm G pat 0 ds (.con 0) with
   | some x=>rowOK G pat (.lit (ds.length / pat.length:Nat)) (a.substR G σ) x
   | none=>false)&&Nat.beq (ds.length % pat.length) 0&&intOK G σ n (.lit (ds.length / pat.length:Nat))
 | .row .opn a n pat e,.opn ds e' s=>Nat.beq e e'&&decide (pat≠[])&&Nat.beq s pat.length&&(match cellsTerm G pat 0 ds (.con 0) with
   | some x=>rowOK G pat (.lit (ds.length / pat.length:Nat)) (a.substR G σ) x
   | none=>false)&&Nat.beq (ds.length % pat.length) 0&&intOK G σ n (.lit (ds.length / pat.length:Nat))
 | .loop st none fn tmps size params _ _ ds,.loop st' none fn' tmps' size' params' _ _ ds'=>decide (st=st')&&Nat.beq fn fn'&&Nat.beq size size'&&decide (params=params')&&tmpsOK G σ tmps tmps' size&&idOK σ ds ds'
 | .deferred none,.deferred none=>true
 | .deferred (some l),.deferred (some m)=>defsOK G σ l m
 | .chan c l,.chan d m=>Nat.beq c d&&valsOK G σ l m
 | .chanB s v,.chanB t u=>boolOK G σ s t&&valOK G σ v (deIte G u)
 | .chanB s _,.chan d []=>Nat.beq d 1&&(match (s.subst G σ).know G with | some t=>!t | none=>false)
 | .chanB s v,.chan d [u]=>Nat.beq d 1&&(match (s.subst G σ).know G with | some t=>t | none=>false)&&valOK G σ v (deIte G u)
 | .map l,.map m=>pairsOK G σ l m
 | .cells cs e,.rep n z ov e'=>Nat.beq e e'&&Nat.beq cs.length n&&repOK G σ z ov cs 0
 | .ros o n cs e,.ros o' n' ds e'=>((intOK G σ o o'&&intOK G σ n n'&&valsOK G σ cs ds)||rosOK G σ o n cs o' n' ds)&&Nat.beq e e'
 | .ros o n cs e,.opn ds e' _=>intOK G σ o (.lit 0)&&intOK G σ n (.lit ds.length)&&valsPre G σ cs ds&&Nat.beq e e'
 | _,_=>false
structure FCtl where
 fn:FuncId
 size:Nat
 reg:AReg
 todo:List AItem
def AItem.bare:AItem→AItem
 | .inRangeFunc _=>.inRangeFunc 0
 | .endRangeFunc _=>.endRangeFunc 0
 | i=>i
def AFrame.ctl (fr:AFrame):FCtl:=⟨fr.fn,fr.size,fr.reg,fr.todo.map AItem.bare⟩
def AB.lctl:AB→Option (Code × Code)
 | .loop _ _ _ _ _ _ a b _=>some (a,b)
 | _=>none
def Cfg.ctl (c:Cfg) (ids:List (Option Nat)):List FCtl × List (Option (Code × Code)) :=
 (c.fr.ctl::c.callers.map AFrame.ctl,ids.map fun i=>(i.bind c.heap.get).bind AB.lctl)
def itemsOK (σ:Sub):List AItem→List AItem→Bool
 | [],[]=>true
 | .inRangeFunc i::xs,.inRangeFunc j::ys=>idOK σ i j&&itemsOK σ xs ys
 | .endRangeFunc i::xs,.endRangeFunc j::ys=>idOK σ i j&&itemsOK σ xs ys
 | .inRangeFunc _::_,_=>false
 | .endRangeFunc _::_,_=>false
 | _::xs,_::ys=>itemsOK σ xs ys
 | _,_=>false
def frOK (G:Ctx) (σ:Sub) (a b:AFrame):Bool :=
 Nat.beq a.fn b.fn&&Nat.beq a.size b.size&&itemsOK σ a.todo b.todo&&defsOK G σ a.defers b.defers&&(a.returning == b.returning)&&(a.deferred == b.deferred) &&
 (match a.round,b.round with
  | none,none=>true
  | some i,some j=>idOK σ i j
  | _,_=>false)&&tmpsOK G σ a.tmps b.tmps a.size
def frsOK (G:Ctx) (σ:Sub):List AFrame→List AFrame→Bool
 | [],[]=>true
 | x::xs,y::ys=>frOK G σ x y&&frsOK G σ xs ys
 | _,_=>false
def findB (id:Nat):List (Nat × AB)→Option AB
 | []=>none
 | (i,b)::r=>bif Nat.beq i id then some b else findB id r
def findG (id:Nat):List (SB × List (Nat × AB))→Option (SB × AB)
 | []=>none
 | (s,l)::r=>match findB id l with
  | some b=>some (s,b)
  | none=>findG id r
structure Tmpl where
 fr:AFrame
 callers:List AFrame
 blocks:List (Nat × AB)
 groups:List (SB × List (Nat × AB))
 next:Nat
def Tmpl.heap (t:Tmpl):AHeap:={ m:=AHeap.lay .nil t.blocks,next:=t.next,gs:=t.groups }
def Tmpl.cfg (t:Tmpl):Cfg:={ fr:=t.fr,callers:=t.callers,heap:=t.heap }
def Tmpl.ids (t:Tmpl):List Nat:=t.blocks.map (·.1)++gidsL t.groups
def Tmpl.loops (t:Tmpl):List Nat:=t.blocks.filterMap fun p=>match p.2 with | .loop ..=>some p.1 | _=>none
def nodupM:List Nat→Nat→Bool
 | [],_=>true
 | x::xs,m=>bif Nat.beq (Nat.land m (Nat.pow 2 x)) 0 then nodupM xs (Nat.lor m (Nat.pow 2 x)) else false
def nodupB (l:List Nat):Bool:=nodupM l 0
def Tmpl.ok (t:Tmpl):Bool:=nodupB t.ids&&t.ids.all (Nat.blt · t.next)&&(t.groups.all fun g=>g.2.all fun p=>match p.2 with | .loop ..=>false | _=>true)
def blocksOK (G:Ctx) (σ:Sub) (H:AHeap):List (Nat × AB)→Bool
 | []=>true
 | (i,b)::r=>(match σ.ids.get i with
  | some j=>match H.get j with
   | some c=>blkOK G σ b c
   | none=>false
  | none=>false)&&blocksOK G σ H r
def layG (s:SB):Tr (SB × AB)→List (Nat × AB)→Tr (SB × AB)
 | t,[]=>t
 | t,(i,b)::r=>layG s (t.set i (s,b)) r
def idxG:Tr (SB × AB)→List (SB × List (Nat × AB))→Tr (SB × AB)
 | t,[]=>t
 | t,(s,l)::r=>idxG (layG s t l) r
def gblocksOK (G:Ctx) (σ:Sub) (H:AHeap) (X:Tr (SB × AB)) (s:SB):List (Nat × AB)→Bool
 | []=>true
 | (i,b)::r=>(match σ.ids.get i with
  | some j=>match H.get j with
   | some c=>blkOK G σ b c
   | none=>match X.get j with
    | some (t,c)=>boolOK G σ s t&&blkOK G σ b c
    | none=>false
  | none=>false)&&gblocksOK G σ H X s r
def groupsOK (G:Ctx) (σ:Sub) (H:AHeap) (X:Tr (SB × AB)):List (SB × List (Nat × AB))→Bool
 | []=>true
 | (s,l)::r=>(match (s.subst G σ).knowG G with
  | some false=>true
  | _=>gblocksOK G σ H X s l||(match (s.subst G σ).know G with
   | some t=>!t
   | none=>false))&&groupsOK G σ H X r
def ownIds (σ:Sub) (l:List Nat):Bool:=nodupB (l.filterMap fun i=>σ.ids.get i)
def noReg:AReg→Bool
 | .none=>true
 | _=>false
def isInst (G:Ctx) (σ:Sub) (t:Tmpl) (c:Cfg):Bool :=
 frOK G σ t.fr c.fr&&frsOK G σ t.callers c.callers&&blocksOK G σ c.heap t.blocks&&groupsOK G σ c.heap (idxG .nil c.heap.gs) t.groups&&ownIds σ t.ids&&noReg t.fr.reg
structure MS where
 g:Ctx
 hT:AHeap
 hC:AHeap
 ints:Tr SI
 bools:Tr SB
 rows:Tr SI
 ids:Tr Nat
 todo:List (Nat × Nat)
 late:List (SI × SI):=[]   -- rows that were held against cells: last
def mVar (i:Nat) (b:SI) (m:MS):MS:=match m.ints.get i with
  | some _=>m
  | none=>{ m with ints:=m.ints.set i b }
def mSI (a b:SI) (m:MS):MS:=match a with
 | .var i=>mVar i b m
 | .add (.mul (.var i) (.lit k)) (.lit c)=>(match b with
  | .lit n=>if k≠0∧(n-c) % k=0 then mVar i (.lit ((n-c) / k)) m else m
  | b=>match b.base with
   | (s,k',c')=>if k'=k∧c'=c then mVar i s m else m)
 | _=>m
def mSB (a b:SB) (m:MS):MS:=match a with
 | .var i=>match m.bools.get i with
  | some _=>m
  | none=>{ m with bools:=m.bools.set i b }
 | _=>m
def mRow (a b:SI) (m:MS):MS:=match a with
 | .row i=>match m.rows.get i with
  | some _=>m
  | none=>{ m with rows:=m.rows.set i b }
 | .upd a _ _=>mRow a b m
 | _=>m
def mUpd1 (G:Ctx) (a b:SI) (m:MS):MS:=match a with
 | .upd _ i (.var j)=>(match mkSel G .u64 b i with
  | .inl x=>mSI (.var j) x m
  | .inr _=>m)
 | .app _ n _ _=>(match b with
  | .app _ k _ _=>mSI n k m
  | .upd c i _=>(match rowBase c with
   | .app _ k _ _=>(match (mkEql G i k).know G with
    | some true=>mSI n (mkAdd k (.lit 1)) m
    | _=>mSI n k m)
   | _=>m)
  | _=>m)
 | _=>m
def mUpd (G:Ctx) (a b:SI) (m:MS):MS:=match a,b with
 | .upd a (.var i) v,.upd b j w=>mUpd G a b (mSI (.var i) j (mSI v w m))
 | a,b=>mUpd1 G a b m
def mId (i j:Nat) (m:MS):MS:=match m.ids.get i with
  | some _=>m
  | none=>{ m with ids:=m.ids.set i j,todo:=(i,j)::m.todo }
def headOK:AV→AV→Bool
 | .nilPtr,.nilPtr=>true
 | .ptr ..,.ptr ..=>true
 | .nilSlice,.nilSlice=>true
 | .slice ..,.slice ..=>true
 | .slack ..,.slack ..=>true
 | .oslice ..,.oslice ..=>true
 | .oslice ..,.slack ..=>true
 | .empty _,.empty _=>true
 | .nilFunc,.nilFunc=>true
 | .func f ..,.func g ..=>decide (f=g)
 | .iface ..,.iface ..=>true
 | .nilIface,.nilIface=>true
 | .int ..,.int ..=>true
 | .bool _,.bool _=>true
 | _,_=>false
def blockOf (H:AHeap) (i:Nat):Option AB:=match H.get i with
 | some b=>some b
 | none=>match findG i H.gs with
  | some (_,b)=>some b
  | none=>none
def zipAll (f:AV→AV→Bool):List AV→List AV→Bool
 | [],[]=>true
 | x::xs,y::ys=>f x y&&zipAll f xs ys
 | _,_=>false
def likeBlk (f:AV→AV→Bool):Option AB→Option AB→Bool
 | some (.cells cs _),some (.cells ds _)=>zipAll f cs ds
 | some (.opn cs _ _),some (.opn ds _ _)=>zipAll f cs ds
 | _,_=>true
def likeLen:SI→SI→Bool
 | .lit a,.lit b=>decide (a=b)
 | _,_=>true
def isSl:AV→Bool
 | .slice ..=>true
 | .nilSlice=>true
 | .empty _=>true
 | .ite _ x _=>isSl x
 | _=>false
def orSl (f:AV→AV→Bool) (a b:AV):Bool:=(isSl a&&isSl b&&!headOK a b)||f a b
def iteLike (f:AV→AV→Bool):AV→AV→Bool
 | .ite _ x y,v=>iteLike f x v||iteLike f y v
 | a,v=>f a v
def likeV (H K:AHeap):Nat→AV→AV→Bool
 | 0,a,b=>iteLike headOK a b
 | n+1,a,b=>iteLike (fun a b=>match a,b with
  | .any,_=>true
  | .ptr i _,.ptr j _=>likeBlk (orSl (likeV H K n)) (blockOf H i) (blockOf K j)
  | .slice i _ l _,.slice j _ m _=>likeLen l m&&likeBlk (orSl (likeV H K n)) (blockOf H i) (blockOf K j)
  | .func f x y,.func g u v=>decide (f=g)&&zipAll (likeV H K n) x u&&zipAll (likeV H K n) y v
  | .iface t x,.iface u y=>Nat.beq t u&&likeV H K n x y
  | a,b=>headOK a b) a b
def numsA:List AV→Bool
 | []=>true
 | .int _ _::r=>numsA r
 | .bool _::r=>numsA r
 | _::_=>false
def sameBlk (f:AV→AV→Bool):Option AB→Option AB→Bool
 | some (.cells cs e),some (.cells ds e')=>Nat.beq e e'&&zipAll f cs ds
 | some (.opn cs _ _),some (.opn ds _ _)=>(numsA cs&&numsA ds)||zipAll f cs ds
 | some (.chan ..),some (.cells ..)=>false
 | some (.cells ..),some (.chan ..)=>false
 | some _,some _=>true
 | _,_=>false
def numsB:Option AB→Bool
 | some (.opn cs _ _)=>numsA cs
 | some (.row ..)=>true
 | _=>false
def sameV (H K:AHeap):Nat→AV→AV→Bool
 | 0,a,b=>match a,b with
  | .any,_=>true
  | .ite ..,_=>true
  | _,.ite ..=>true
  | .chan ..,.chan ..=>true
  | .map ..,.map ..=>true
  | a,b=>headOK a b
 | n+1,a,b=>match a,b with
  | .any,_=>true
  | .ite ..,_=>true
  | _,.ite ..=>true
  | .ptr i _,.ptr j _=>sameBlk (sameV H K n) (blockOf H i) (blockOf K j)
  | .slice i _ l _,.slice j _ m _=>likeLen l m&&sameBlk (sameV H K n) (blockOf H i) (blockOf K j)
  | .slack i p q r,.slack j p' q' r'=>(numsB (blockOf H i)&&numsB (blockOf K j))||(Nat.beq p p'&&Nat.beq q q'&&Nat.beq r r'&&sameBlk (sameV H K n) (blockOf H i) (blockOf K j))
  | .func f x y,.func g u v=>decide (f=g)&&zipAll (sameV H K n) x u&&zipAll (sameV H K n) y v
  | .iface t x,.iface u y=>Nat.beq t u&&sameV H K n x y
  | .agg x,.agg u=>zipAll (sameV H K n) x u
  | .tuple x,.tuple u=>zipAll (sameV H K n) x u
  | .chan ..,.chan ..=>true
  | .map ..,.map ..=>true
  | .oslice ..,.nilSlice=>true
  | .nilSlice,.oslice ..=>true
  | .oslice ..,.slack j _ _ _=>numsB (blockOf K j)
  | .slack i _ _ _,.oslice ..=>numsB (blockOf H i)
  | .slack i _ _ _,.nilSlice=>numsB (blockOf H i)
  | .nilSlice,.slack j _ _ _=>numsB (blockOf K j)
  | a,b=>headOK a b
mutual
def mV:AV→AV→MS→MS
 | .int _ a,.int _ b,m=>mSI a b m
 | .bool a,.bool b,m=>mSB a b m
 | .ptr i a,.ptr j b,m=>mId i j (mSI a b m)
 | .slice i a b c,.slice j d e f,m=>mId i j (mSI a d (mSI b e (mSI c f m)))
 | .slack i _ _ _,.slack j _ _ _,m=>mId i j m
 | .oslice i _ n,.oslice j _ k,m=>mId i j (mSI n k m)
 | .oslice i _ n,.slack j _ _ k,m=>mId i j (mSI n (.lit k) m)
 | .map i,.map j,m=>mId i j m
 | .chan i,.chan j,m=>mId i j m
 | .yieldF i,.yieldF j,m=>mId i j m
 | .func _ a b,.func _ c d,m=>mVs b d (mVs a c m)
 | .iface _ x,.iface _ y,m=>mV x (deIte m.g y) m
 | .agg a,.agg b,m=>mVs a b m
 | .tuple a,.tuple b,m=>mVs a b m
 | .ite s x y,v,m=>match s with
  | .eql (.var k) (.lit j)=>(match v with
   | .ite (.eql t (.lit j')) u z=>bif decide (j=j') then mV y z (mV x u (mSI (.var k) t m)) else mV y (.ite (.eql t (.lit j')) u z) (mSI (.var k) t m)
   | v=>bif sameV m.hT m.hC 7 x v then mV x v (mSI (.var k) (.lit j) m) else mV y v m)
  | .lss (.lit (.ofNat 0)) k=>(match v with
   | .ite _ (.slice a b c d) z=>mV y z (mV x (.slice a b c d) m)
   | .slice a b c d=>mV y (.empty false) (mV x (.slice a b c d) m)
   | .ite _ (.oslice a b c) _=>mV x (.oslice a b c) m
   | .oslice a b c=>mV x (.oslice a b c) m
   | .slack a b c d=>mV x (.slack a b c d) m
   | .ite _ (.ptr a b) _=>mV x (.ptr a b) m
   | .ptr a b=>mV x (.ptr a b) m
   | v=>match x with
    | .ptr _ _=>mV y v m
    | _=>mV y v (mSI k (.lit 0) m))
  | s=>(match v with
   | .ite t u z=>mV y z (mV x u (mSB s t m))
   | v=>bif likeV m.hT m.hC 3 x v then mV x v (mSB s (.lit true) m) else mV y v (mSB s (.lit false) m))
 | _,_,m=>m
def mVs:List AV→List AV→MS→MS
 | x::xs,y::ys,m=>mVs xs ys (mV x (deIte m.g y) m)
 | _,_,m=>m
end
def mDef:ADef→ADef→MS→MS
 | .collected i,.collected j,m=>mId i j m
 | .call _ a,.call _ b,m=>mVs a b m
 | _,_,m=>m
def mDefs:List ADef→List ADef→MS→MS
 | x::xs,y::ys,m=>mDefs xs ys (mDef x y m)
 | _,_,m=>m
def mTmps (a b:Tr AV):Nat→MS→MS
 | 0,m=>m
 | n+1,m=>mTmps a b n (mV ((a.get n).getD undefA) (deIte m.g ((b.get n).getD undefA)) m)
def mPairs:List (AV × AV)→List (AV × AV)→MS→MS
 | x::xs,y::ys,m=>mPairs xs ys (mV x.2 (deIte m.g y.2) (mV x.1 (deIte m.g y.1) m))
 | _,_,m=>m
def mB (G:Ctx):AB→AB→MS→MS
 | .cells cs _,.cells ds _,m=>mVs cs ds m
 | .opn cs _ _,.opn ds _ _,m=>mVs cs ds m
 | .row md a n _ _,.row md' b k _ _,m=>mUpd G a b <| mRow a b (mSI n k (match md,md' with | .ro o,.ro o'=>mSI o o' m | _,_=>m))
 | .row _ a n pat _,.cells ds _,m=>match cellsTerm G pat 0 ds (.con 0) with
  | some x=>mSI n (.lit (ds.length / pat.length:Nat)) { m with late:=(a,x)::m.late }
  | none=>m
 | .row _ a n pat _,.opn ds _ _,m=>match cellsTerm G pat 0 ds (.con 0) with
  | some x=>mSI n (.lit (ds.length / pat.length:Nat)) { m with late:=(a,x)::m.late }
  | none=>m
 | .loop _ _ _ tmps size _ _ _ ds,.loop _ _ _ tmps' _ _ _ _ ds',m=>mId ds ds' (mTmps tmps tmps' size m)
 | .deferred (some l),.deferred (some k),m=>mDefs l k m
 | .chan _ l,.chan _ k,m=>mVs l k m
 | .chanB s v,.chanB t u,m=>mV v (deIte m.g u) (mSB s t m)
 | .chanB s _,.chan _ [],m=>mSB s (.lit false) m
 | .chanB s v,.chan _ (u::_),m=>mV v (deIte m.g u) (mSB s (.lit true) m)
 | .map l,.map k,m=>mPairs l k m
 | .cells cs _,.rep n z ov _,m=>mVs cs ((List.range n).map fun i=>(ov.get i).getD z) m
 | .ros o n cs _,.ros o' n' ds _,m=>match (match o with | .var i=>m.ints.get i | _=>none) with
  | some x=>match gapRosG G x o' with
   | some k=>mVs cs (ds.drop k) (mSI n (mkAdd n' (.lit (-(k:Int)))) m)
   | none=>mVs cs ds (mSI n n' m)
  | none=>mVs cs ds (mSI n n' (mSI o o' m))
 | .ros o n cs _,.opn ds _ _,m=>mVs cs ds (mSI n (.lit ds.length) (mSI o (.lit 0) m))
 | _,_,m=>m
def mItems:List AItem→List AItem→MS→MS
 | .inRangeFunc i::xs,.inRangeFunc j::ys,m=>mItems xs ys (mId i j m)
 | .endRangeFunc i::xs,.endRangeFunc j::ys,m=>mItems xs ys (mId i j m)
 | _::xs,_::ys,m=>mItems xs ys m
 | _,_,m=>m
def mFr (a b:AFrame) (m:MS):MS :=
 mTmps a.tmps b.tmps a.size (mDefs a.defers b.defers (mItems a.todo b.todo (match a.round,b.round with
  | some i,some j=>mId i j m
  | _,_=>m)))
def mFrs:List AFrame→List AFrame→MS→MS
 | x::xs,y::ys,m=>mFrs xs ys (mFr x y m)
 | _,_,m=>m
def mWork (G:Ctx) (H K:AHeap):Nat→MS→MS
 | 0,m=>m
 | n+1,m=>match m.todo with
  | []=>m
  | (i,j)::r=>match blockOf H i,blockOf K j with
   | some a,some b=>mWork G H K n (mB G a b { m with todo:=r })
   | _,_=>mWork G H K n { m with todo:=r }
def listOf {α:Type} (t:Tr α) (d:α):Nat→List α→List α
 | 0,l=>l
 | n+1,l=>listOf t d n ((t.get n).getD d::l)
structure Cut where
 fn:FuncId
 depth:Nat
 blk:Nat
 t:Tmpl
 ni:Nat
 nb:Nat
 nr:Nat
 key:List (Nat × Int):=[]   -- slots of the first frame that have this number there (looked at first)
 sig:List (List Nat):=[]    -- where the callers stand (looked at first)
 top:List Nat:=[]           -- which loop it is (looked at first)
 fs:List (SB × Bool):=[]    -- what is to be known there
 gh:List (Nat × SI):=[]     -- numbers that stand in no place: what they are
 df:List (Nat × Int):=[]    -- numbers for which nothing was found: what is taken
 pk:List (Nat × List Nat × Int):=[]   -- what a slot leads to,cell by cell,that is this number there (looked at first)
def regSig:AReg→List Nat
 | .none=>[0]
 | .seq _ i []=>[1,i]
 | .seq _ i (o::_)=>[2,i,match o.dst with | some d=>d+1 | none=>0]
 | .any _ u _=>3::u.map (fun p=>match p.2.dst with | some d=>d+1 | none=>0)
def natsOK:List Nat→List Nat→Bool
 | [],[]=>true
 | x::xs,y::ys=>Nat.beq x y&&natsOK xs ys
 | _,_=>false
def firstReg:Code→Nat
 | .region id _ _=>id+1
 | .seq a b=>match firstReg a with
  | 0=>firstReg b
  | n=>n
 | .cond _ a b=>match firstReg a with
  | 0=>firstReg b
  | n=>n
 | .block _ b=>firstReg b
 | .loop b=>firstReg b
 | .scope b=>firstReg b
 | _=>0
def topSig:List AItem→List Nat
 | .inLoop b::_=>[firstReg b]
 | .code (.loop b)::_=>[firstReg b,1]
 | _=>[]
def sigOK:List (List Nat)→List AFrame→Bool
 | [],_=>true
 | x::xs,fr::frs=>natsOK x (regSig fr.reg)&&sigOK xs frs
 | _::_,[]=>false
def keyOK (G:Ctx) (tm:Tr AV):List (Nat × Int)→Bool
 | []=>true
 | (t,n)::r=>(match (tm.get t).getD undefA with
  | .int _ (.lit m)=>decide (m=n)
  | .int _ a=>(match (mkEql G a (.lit n)).know G with | some b=>b | none=>false)
  | .bool b=>(match b.know G with | some b=>b == decide (n=1) | none=>false)
  | .slice _ _ (.lit m) _=>decide (m=n)
  | .slack _ _ _ m=>decide ((m:Int)=n)
  | .oslice _ _ (.lit m)=>decide (m=n)
  | .nilSlice=>decide (n=0)
  | .empty _=>decide (n=0)
  | _=>false)&&keyOK G tm r
def pathV (G:Ctx) (H:AHeap):List Nat→AV→AV
 | [],v=>deIte G v
 | k::r,v=>match (match deIte G v with | .iface _ x=>deIte G x | x=>x) with
  | .ptr i (.lit (.ofNat o))=>(match blockOf H i with
   | some (.cells cs _)=>pathV G H r (cs.getD (o+k) .any)
   | _=>.any)
  | .func _ l _=>pathV G H r (l.getD (k-1000) .any)
  | .agg l=>pathV G H r (l.getD k .any)
  | .slice i (.lit (.ofNat o)) _ _=>(match blockOf H i with
   | some (.cells cs _)=>pathV G H r (cs.getD (o+k) .any)
   | some (.row .own a _ _ _)=>(match r with
    | []=>(match mkSel G .u64 a (.lit ((o+k:Nat):Int)) with
     | .inl x=>.int .u64 x
     | _=>.any)
    | _=>.any)
   | _=>.any)
  | _=>.any
def pathN (G:Ctx):AV→Option Int
 | .int _ (.lit m)=>some m
 | .int _ a=>(match a.rangeT G with
  | some q=>if q.1=q.2 then some q.1 else none
  | none=>none)
 | .nilPtr=>some 0
 | .ptr _ _=>some 1
 | .func (.func f) _ _=>some f
 | .slack _ _ _ n=>some n
 | .nilSlice=>some 0
 | _=>none
def slotAt (c:Cfg) (t:Nat):AV:=match t / 1000 with
 | 0=>(c.fr.tmps.get t).getD undefA
 | k+1=>(match c.callers[k]? with
  | some f=>(f.tmps.get (t % 1000)).getD undefA
  | none=>undefA)
def pkOK (G:Ctx) (c:Cfg):List (Nat × List Nat × Int)→Bool
 | []=>true
 | (t,p,n)::r=>(match pathN G (pathV G c.heap p (slotAt c t)) with
  | some m=>decide (m=n)
  | none=>decide (n = -999999))&&pkOK G c r
def orElse (t:Tr SI):List (Nat × Int)→Tr SI
 | []=>t
 | p::r=>orElse (match t.get p.1 with
  | some _=>t
  | none=>t.set p.1 (.lit p.2)) r
def setS (x:SI):List SI→Nat→List SI
 | [],_=>[]
 | _::r,0=>x::r
 | y::r,n+1=>y::setS x r n
def ghosts (G:Ctx) (σ:Sub):List (Nat × SI)→Sub
 | []=>σ
 | p::r=>ghosts G { ints:=setS (p.2.subst G σ) σ.ints p.1,bools:=σ.bools,rows:=σ.rows,ids:=σ.ids,next:=σ.next } r
def layAll:Tr AB→List (SB × List (Nat × AB))→Tr AB
 | m,[]=>m
 | m,(_,l)::r=>layAll (AHeap.lay m l) r
def AHeap.flat (H:AHeap):AHeap:={ m:=layAll H.m H.gs,next:=H.next }
def mLate:List (SI × SI)→MS→MS
 | [],m=>m
 | p::r,m=>mLate r (mRow p.1 p.2 m)
def solve (G:Ctx) (u:Cut) (c:Cfg):Sub :=
 let m0:=mWork G u.t.heap.flat c.heap.flat (u.t.next+1) (mFrs u.t.callers c.callers (mFr u.t.fr c.fr { g:=G,hT:=u.t.heap.flat,hC:=c.heap.flat,ints:=.nil,bools:=.nil,rows:=.nil,ids:=.nil,todo:=[] }))
 let m:=mLate m0.late m0
 match ghosts G { ints:=listOf (orElse m.ints u.df) (.lit 0) u.ni [],bools:=listOf m.bools (.lit false) u.nb [],rows:=listOf m.rows (.con 0) u.nr [],ids:=m.ids,next:=u.t.next } u.gh with
 | σ=>{ ints:=σ.ints,bools:=σ.bools,rows:=σ.rows,ids:=σ.ids,next:=u.t.next }
def strip:List AItem→List AItem
 | .inBlock _::k=>strip k
 | .inScope _::k=>strip k
 | k=>k
def nearBlk:List AItem→Option Nat
 | []=>none
 | .inBlock id::_=>some id
 | _::k=>nearBlk k
def Cfg.at (c:Cfg):Cfg:={ c with fr:={ c.fr with todo:=strip c.fr.todo } }
def atLoop (fr:AFrame):Option Nat :=
 match fr.returning,fr.reg with
 | false,.none=>match strip fr.todo with
  | .inLoop _::k=>nearBlk k
  | .code (.loop _)::k=>nearBlk k
  | _=>none
 | _,_=>none
def openFact (G:Ctx) (σ:Sub):List (SB × Bool)→Option SB
 | []=>none
 | (b,_)::r=>match b.subst G σ with
  | c=>match c.know G with
   | some _=>openFact G σ r
   | none=>some (c.atom G)
def openOf (us:List Cut) (G:Ctx) (x:Nat × Sub):Option SB:=match us[x.1]? with
 | some u=>openFact G x.2 u.fs
 | none=>none
def wrongFact (G:Ctx) (σ:Sub):List (SB × Bool)→Bool
 | []=>false
 | (b,t)::r=>(match (b.subst G σ).know G with
  | some u=>!(u == t)
  | none=>false)||wrongFact G σ r
def cutOf (G:Ctx) (c:Cfg) (blk:Nat):List Cut→Nat→Option (Nat × Sub)
 | [],_=>none
 | u::r,j=>bif Nat.beq u.fn c.fr.fn&&Nat.beq u.blk blk&&Nat.beq u.depth c.callers.length&&keyOK G c.fr.tmps u.key&&natsOK u.top (topSig c.fr.todo)&&sigOK u.sig c.callers&&pkOK G c u.pk then
   (match solve G u c with
   | σ=>bif isInst G σ u.t c&&!wrongFact G σ u.fs then some (j,σ) else cutOf G c blk r (j+1))
  else cutOf G c blk r (j+1)
inductive Leaf where
 | dead (why:String)
 | fin (b:SB)
 | cut (j:Nat) (ints:List SI) (bools:List SB) (rows:List SI)
structure End where
 asm:List (SB × Bool)
 leaf:Leaf
 ids:Tr Nat
 cfg:Cfg
def checkE (us:List Cut) (go:Bool) (G:Ctx) (c:Cfg):Option (Nat × Sub) :=
 @Bool.rec (fun _=>Option (Nat × Sub)) (@Option.rec Nat (fun _=>Option (Nat × Sub)) none (fun blk=>cutOf G c.at blk us 0) (atLoop c.fr)) none go
def finE (G:Ctx) (c:Cfg) (v:AV):List End:=match v with
 | .bool b=>[⟨G.asm,.fin b,.nil,c⟩]
 | _ => [⟨G.asm, .dead "no truth", .nil, c⟩]
def goE (ih:Bool→Ctx→Cfg→List End) (G:Ctx) (c:Cfg):List End:=ih false G c
def ends (P:Program) (us:List Cut) (n:Nat):Bool→Ctx→Cfg→List End :=
 @Nat.rec (fun _ => Bool → Ctx → Cfg → List End) (fun _ G c => [⟨G.asm, .dead "fuel", .nil, c⟩])
  (fun _ ih go G c=>@Option.rec (Nat × Sub) (fun _=>List End)
   (@Out.rec (fun _=>List End) (fun c'=>goE ih G c') (fun l=>l.flatMap (ih false G))
    (fun b=>ih true { G with asm:=(b,true)::G.asm } (c.refine { G with asm:=(b,true)::G.asm })++ih true { G with asm:=(b,false)::G.asm } (c.refine { G with asm:=(b,false)::G.asm }))
    (fun v _=>finE G c v) (fun w=>[⟨G.asm,.dead w,.nil,c⟩]) (stepF P G c))
   (fun x=>@Option.rec SB (fun _=>List End) [⟨G.asm,.cut x.1 x.2.ints x.2.bools x.2.rows,x.2.ids,c.at⟩]
    (fun b=>ih false { G with asm:=(b,true)::G.asm } (c.refine { G with asm:=(b,true)::G.asm })++ih false { G with asm:=(b,false)::G.asm } (c.refine { G with asm:=(b,false)::G.asm })) (openOf us G x)) (checkE us go G c)) n
inductive CS where
 | int (k:IntKind)
 | bool
 | slice (pat:List CK) (e:TypeId)
 | slices (pat:List CK) (e e2:TypeId)   -- a slice of slices: the first eight are looked at
def CS.subs:CS→Nat
 | .slice _ _=>1
 | .slices _ _ _=>9
 | _=>0
def ckL:List CS→Option (List CK)
 | []=>some []
 | .int k::r=>match ckL r with
  | some l=>some (.int k::l)
  | none=>none
 | .bool::r=>match ckL r with
  | some l=>some (.bool::l)
  | none=>none
 | .slice _ _::_=>none
 | .slices _ _ _::_=>none
def repC (l:List CS):Nat→List CS
 | 0=>[]
 | m+1=>l++repC l m
def shapeF (P:Program) (f:TypeId→Option (List CS)):List Field→Nat→Option (List CS)
 | [],_=>some []
 | fd::r,o=>match f fd.type with
  | some l=>if fd.offset=o∧P.cellsOf fd.type=l.length then (match shapeF P f r (o+l.length) with
   | some l'=>some (l++l')
   | none=>none) else none
  | none=>none
def shapeT (P:Program):Nat→TypeId→Option (List CS)
 | 0,_=>none
 | n+1,t=>match P.underlying t with
  | some .bool=>some [.bool]
  | some (.int k)=>some [.int k]
  | some (.slice e)=>match shapeT P n e with
   | some [.slice pat e']=>if P.cellsOf e=1 then some [.slices pat e' e] else none
   | some l=>(match ckL l with
    | some pat=>if P.cellsOf e=pat.length∧pat≠[] then some [.slice pat e] else none
    | none=>none)
   | none=>none
  | some (.struct fs)=>match shapeF P (shapeT P n) fs.toList 0 with
   | some l=>if P.cellsOf t=l.length then some l else none
   | none=>none
  | some (.array m e)=>match shapeT P n e with
   | some l=>if P.cellsOf e=l.length∧P.cellsOf t=(repC l m).length then some (repC l m) else none
   | none=>none
  | _=>none
def paramSh (P:Program) (t:TypeId):Option (Bool × List CS) :=
 match shapeT P 12 t with
 | some l=>(match P.underlying t with
  | some (.struct _)=>some (true,l)
  | some (.array _ _)=>some (true,l)
  | _=>if l.length=1 then some (false,l) else none)
 | none=>none
def paramShs (P:Program):List TypeId→Option (List (Bool × List CS))
 | []=>some []
 | t::r=>match paramSh P t,paramShs P r with
  | some a,some b=>some (a::b)
  | _,_=>none
def avS (c q:Nat):AV:=.ite (.var (18*c+2*q)) (.slice (9*c+q) (.var (27*c+3*q)) (.var (27*c+(3*q+1))) (.var (27*c+(3*q+2)))) (.ite (.var (18*c+(2*q+1))) .nilSlice (.empty true))
def avC (c:Nat):CS→AV
 | .int k=>.int k (.var (27*c))
 | .bool=>.bool (.var (18*c))
 | .slice _ _=>avS c 0
 | .slices _ _ _=>avS c 0
def avCs:List CS→Nat→List AV
 | [],_=>[]
 | x::r,c=>avC c x::avCs r (c+1)
def avP:List (Bool × List CS)→Nat→List AV
 | [],_=>[]
 | (true,l)::r,c=>.agg (avCs l c)::avP r (c+l.length)
 | (false,l)::r,c=>avCs l c++avP r (c+l.length)
def rngS:Nat→List (Option (Int × Int))
 | 0=>[]
 | n+1=>none::some (0,9223372036854775807)::some (0,9223372036854775807)::rngS n
def rngC1:CS→List (Option (Int × Int))
 | .int k=>some (k.min,k.max)::List.replicate 26 none
 | x=>rngS x.subs++List.replicate (27-3*x.subs) none
def rngC:List CS→List (Option (Int × Int))
 | []=>[]
 | x::r=>rngC1 x++rngC r
def asmS (c:Nat):Nat→List (SB × Bool)
 | 0=>[]
 | q+1=>(.lss (.var (27*c+(3*q+2))) (.var (27*c+(3*q+1))),false)::asmS c q
def asmC:List CS→Nat→List (SB × Bool)
 | [],_=>[]
 | x::r,c=>asmS c x.subs++asmC r (c+1)
def rowS (pat:List CK) (e:TypeId) (c q:Nat):AB:=.row (.ro (.var (27*c+3*q))) (.row (9*c+q)) (.var (27*c+(3*q+1))) pat e
def avSs (c:Nat):Nat→Nat→List AV
 | _,0=>[]
 | q,n+1=>avS c q::avSs c (q+1) n
def blkS:CS→Nat→Nat→AB
 | .slices _ _ e2,c,0=>.ros (.var (27*c)) (.var (27*c+1)) (avSs c 1 8) e2
 | .slices pat e _,c,q=>rowS pat e c q
 | .slice pat e,c,q=>rowS pat e c q
 | _,_,_=>.deferred none
def gsS (x:CS) (c:Nat):Nat→List (SB × List (Nat × AB))
 | 0=>[]
 | q+1=>gsS x c q++[(.var (18*c+2*q),[(9*c+q,blkS x c q)])]
def gsC:List CS→Nat→List (SB × List (Nat × AB))
 | [],_=>[]
 | x::r,c=>gsS x c x.subs++gsC r (c+1)
def cellsP:List (Bool × List CS)→List CS
 | []=>[]
 | p::r=>p.2++cellsP r
def heapP (shs:List (Bool × List CS)):AHeap:={ m:=.nil,next:=9*(cellsP shs).length,gs:=gsC (cellsP shs) 0 }
def ctxP (shs:List (Bool × List CS)):Ctx:={ rng:=rngC (cellsP shs),asm:=asmC (cellsP shs) 0 }
end
end Go.Ev
